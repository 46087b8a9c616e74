import PyProof.Rows.All
import Wide.All
import OpenK.AllK
import Wide.FinOn
import HandS.ForMost
import HandS.ForExc
import HandS.ExcInit
import HandS.IsInst
import HandS.Style
import HandS.Flow
import HandS.Conv
import HandS.TupAny
import HandS.Defaults
import HandS.RaiseMore
import KE.DataEq
import KE.DataFind
import KE.KExcSuper
import KE.KDictZip
import HandS.ListItems
import HandS.Zip
import HandS.TupSets
import HandS.TupMul
import PySem.Challenge.RW_copiedlengths_k12_whole_texts_of_scripts
set_option Elab.async false
set_option linter.all false
set_option maxRecDepth 100000
set_option maxHeartbeats 2000000
/-! the data layer: readings over plain data -/
namespace DL
open PySem L2

mutual
/-- at v stands the datum d; no list or tuple of it lies at a volatile address -/
inductive Dt (K : PySem.W.Frag) (vol : Addr → Prop) (H : Hp) : V → PyData → Prop
  | non : Dt K vol H .non .none
  | bl (b : Bool) : Dt K vol H (.bl b) (.bool b)
  | int (i : Int) : Dt K vol H (.int i) (.int i)
  | str (x : Str) : Dt K vol H (.str x) (.str x)
  | lst {a : Addr} {xs : List V} {ds : List PyData} : H a = some (.lst xs) → ¬ vol a → DtAll K vol H xs ds → Dt K vol H (.ref a) (.list ds)
  | tup {a : Addr} {xs : List V} {ds : List PyData} : H a = some (.tup xs) → ¬ vol a → DtAll K vol H xs ds → Dt K vol H (.ref a) (.tuple ds)
  | ktp {a : Addr} {xs : List V} {ds : List PyData} : (∀ H', SqT K H' a xs) → DtAll K vol H xs ds → Dt K vol H (.ref a) (.tuple ds)
inductive DtAll (K : PySem.W.Frag) (vol : Addr → Prop) (H : Hp) : List V → List PyData → Prop
  | nil : DtAll K vol H [] []
  | cons {v : V} {vs : List V} {d : PyData} {ds : List PyData} : Dt K vol H v d → DtAll K vol H vs ds → DtAll K vol H (v :: vs) (d :: ds)
end

section
variable {K : PySem.W.Frag} {vol vol' : Addr → Prop} {H H' : Hp}
mutual
theorem Dt.dp : ∀ (d : PyData) (v : V), Dt K vol H v d → Dp K H v d
  | .none, _, h => by cases h; exact .non
  | .bool b, _, h => by cases h; exact .bl b
  | .int i, _, h => by cases h; exact .int i
  | .str x, _, h => by cases h; exact .str x
  | .list ds, _, h => by
    cases h with
    | lst h1 _ h2 => exact .lst (SqL.of h1) (DtAll.dp ds _ h2)
  | .tuple ds, _, h => by
    cases h with
    | tup h1 _ h2 => exact .tup (SqT.of h1) (DtAll.dp ds _ h2)
    | ktp h1 h2 => exact .tup (h1 H) (DtAll.dp ds _ h2)
  | .dict _, _, h => by cases h
theorem DtAll.dp : ∀ (ds : List PyData) (vs : List V), DtAll K vol H vs ds → DpAll K H vs ds
  | [], _, h => by cases h; exact .nil
  | d :: ds, _, h => by
    cases h with
    | cons h1 h2 => exact .cons (Dt.dp d _ h1) (DtAll.dp ds _ h2)
end
mutual
/-- the heap goes on; other addresses may be volatile -/
theorem Dt.move (k : ∀ a o, ¬ vol a → H a = some o → H' a = some o ∧ ¬ vol' a) : ∀ (d : PyData) (v : V), Dt K vol H v d → Dt K vol' H' v d
  | .none, _, h => by cases h; exact .non
  | .bool b, _, h => by cases h; exact .bl b
  | .int i, _, h => by cases h; exact .int i
  | .str x, _, h => by cases h; exact .str x
  | .list ds, _, h => by
    cases h with
    | lst h1 n h2 => exact .lst (k _ _ n h1).1 (k _ _ n h1).2 (DtAll.move k ds _ h2)
  | .tuple ds, _, h => by
    cases h with
    | tup h1 n h2 => exact .tup (k _ _ n h1).1 (k _ _ n h1).2 (DtAll.move k ds _ h2)
    | ktp h1 h2 => exact .ktp h1 (DtAll.move k ds _ h2)
  | .dict _, _, h => by cases h
theorem DtAll.move (k : ∀ a o, ¬ vol a → H a = some o → H' a = some o ∧ ¬ vol' a) : ∀ (ds : List PyData) (vs : List V), DtAll K vol H vs ds → DtAll K vol' H' vs ds
  | [], _, h => by cases h; exact .nil
  | d :: ds, _, h => by
    cases h with
    | cons h1 h2 => exact .cons (Dt.move k d _ h1) (DtAll.move k ds _ h2)
end
theorem DtAll.length : ∀ {vs : List V} {ds : List PyData}, DtAll K vol H vs ds → vs.length = ds.length
  | [], _, h => by cases h; rfl
  | v :: vs, _, h => by
    cases h with
    | cons h1 h2 => simp [DtAll.length h2]
theorem DtAll.get : ∀ {vs : List V} {ds : List PyData} {i : Nat} {v : V}, DtAll K vol H vs ds → vs[i]? = some v → ∃ d, ds[i]? = some d ∧ Dt K vol H v d
  | [], _, _, _, h, e => by simp at e
  | v :: vs, _, 0, _, h, e => by
    cases h with
    | cons h1 h2 => simp at e; subst e; exact ⟨_, rfl, h1⟩
  | v :: vs, _, i + 1, x, h, e => by
    cases h with
    | cons h1 h2 =>
      obtain ⟨d, e1, e2⟩ := DtAll.get (i := i) (v := x) h2 (by simpa using e)
      exact ⟨d, by simpa using e1, e2⟩
theorem DtAll.getD : ∀ {vs : List V} {ds : List PyData} {i : Nat} {d : PyData}, DtAll K vol H vs ds → ds[i]? = some d → ∃ v, vs[i]? = some v ∧ Dt K vol H v d
  | _, [], _, _, h, e => by simp at e
  | _, d :: ds, 0, _, h, e => by
    cases h with
    | cons h1 h2 => simp at e; subst e; exact ⟨_, rfl, h1⟩
  | _, d :: ds, i + 1, x, h, e => by
    cases h with
    | cons h1 h2 =>
      obtain ⟨v, e1, e2⟩ := DtAll.getD (i := i) (d := x) h2 (by simpa using e)
      exact ⟨v, by simpa using e1, e2⟩
theorem DtAll.append : ∀ {vs ws : List V} {ds es : List PyData}, DtAll K vol H vs ds → DtAll K vol H ws es → DtAll K vol H (vs ++ ws) (ds ++ es)
  | [], _, _, _, h, q => by cases h; exact q
  | v :: vs, _, _, _, h, q => by
    cases h with
    | cons h1 h2 => exact .cons h1 (DtAll.append h2 q)
theorem DtAll.take : ∀ {vs : List V} {ds : List PyData} (n : Nat), DtAll K vol H vs ds → DtAll K vol H (vs.take n) (ds.take n)
  | _, _, 0, _ => by simp; exact .nil
  | [], _, n + 1, h => by cases h; exact .nil
  | v :: vs, _, n + 1, h => by
    cases h with
    | cons h1 h2 => exact .cons h1 (DtAll.take n h2)
theorem DtAll.drop : ∀ {vs : List V} {ds : List PyData} (n : Nat), DtAll K vol H vs ds → DtAll K vol H (vs.drop n) (ds.drop n)
  | _, _, 0, h => h
  | [], _, n + 1, h => by cases h; exact .nil
  | v :: vs, _, n + 1, h => by
    cases h with
    | cons h1 h2 => exact DtAll.drop n h2
theorem DtAll.reverse : ∀ {vs : List V} {ds : List PyData}, DtAll K vol H vs ds → DtAll K vol H vs.reverse ds.reverse
  | [], _, h => by cases h; exact .nil
  | v :: vs, _, h => by
    cases h with
    | cons h1 h2 =>
      rw [List.reverse_cons, List.reverse_cons]
      exact (DtAll.reverse h2).append (.cons h1 .nil)
theorem DtAll.strs : ∀ (xs : List Str), DtAll K vol H (xs.map V.str) (xs.map PyData.str)
  | [] => .nil
  | x :: xs => .cons (.str x) (DtAll.strs xs)
theorem DtAll.of_strs : ∀ {vs : List V} {xs : List Str}, DtAll K vol H vs (xs.map PyData.str) → vs = xs.map V.str
  | [], [], h => rfl
  | v :: vs, [], h => by cases h
  | [], x :: xs, h => by cases h
  | v :: vs, x :: xs, h => by
    cases h with
    | cons h1 h2 =>
      cases h1
      rw [DtAll.of_strs h2]; rfl
theorem DtAll.of_bools : ∀ {vs : List V} {xs : List Bool}, DtAll K vol H vs (xs.map PyData.bool) → vs = xs.map V.bl
  | [], [], h => rfl
  | v :: vs, [], h => by cases h
  | [], x :: xs, h => by cases h
  | v :: vs, x :: xs, h => by
    cases h with
    | cons h1 h2 =>
      cases h1
      rw [DtAll.of_bools h2]; rfl
theorem DtAll.same {vs : List V} {ds : List PyData} (e : Same H H') (h : DtAll K vol H vs ds) : DtAll K vol H' vs ds := DtAll.move (fun a o n q => ⟨e a o q, n⟩) _ _ h
theorem Dt.same {v : V} {d : PyData} (e : Same H H') (h : Dt K vol H v d) : Dt K vol H' v d := Dt.move (fun a o n q => ⟨e a o q, n⟩) _ _ h
end

/-! ### modes: what may change while code runs -/
structure Md where
  vol : Addr → Prop
  R : Hp → Hp → Prop
  inv : Hp → Prop
  refl : ∀ H, R H H
  trans : ∀ {H1 H2 H3 : Hp}, R H1 H2 → R H2 H3 → R H1 H3
  same : ∀ {H H' : Hp}, Same H H' → R H H'
  keep : ∀ {H H' : Hp} {a : Addr} {o : HO}, R H H' → ¬ vol a → H a = some o → H' a = some o
  invR : ∀ {H H' : Hp}, inv H → R H H' → inv H'
  volN : ∀ {H : Hp} {a : Addr}, inv H → vol a → H a ≠ none
  grow : ∀ {H H1 : Hp} {D : Addr} {o : HO}, inv H → R H H1 → H D = none → R H (upd H1 D o)
theorem same_new {H : Hp} {p : Addr} {o : HO} (h : H p = none) : Same H (upd H p o) := fun b u q => by rw [upd_ne (ne_of_none q h)]; exact q

/-- nothing that stands changes -/
def pureM (vol : Addr → Prop) : Md where
  vol := vol
  R := Same
  inv := fun H => ∀ a, vol a → H a ≠ none
  refl := Same.refl
  trans := Same.trans
  same := id
  keep := fun e _ h => e _ _ h
  invR := fun i e a v z => by
    cases q : (_ : Hp) a with
    | none => exact i a v q
    | some o => rw [e a o q] at z; cases z
  volN := fun i v => i _ v
  grow := fun _ e h a o q => by rw [upd_ne (ne_of_none q h)]; exact e a o q

/-- the law's jar: two numbers -/
def JarAt (H : Hp) (j : Addr) : Prop := ∃ x y : Int, H j = some (.lst [.int x, .int y]) ∧ 0 ≤ x ∧ 0 ≤ y ∧ y < 2147482943
def RJ (j : Addr) (H H' : Hp) : Prop := (∀ a o, a ≠ j → H a = some o → H' a = some o) ∧ (JarAt H j → JarAt H' j)
theorem JarAt.ne {H : Hp} {j : Addr} (h : JarAt H j) : H j ≠ none := by
  obtain ⟨x, y, e, _⟩ := h
  rw [e]; intro z; cases z
def jarM (j : Addr) : Md where
  vol := fun a => a = j
  R := RJ j
  inv := fun H => JarAt H j
  refl := fun H => ⟨fun _ _ _ h => h, id⟩
  trans := fun a b => ⟨fun x o n h => b.1 x o n (a.1 x o n h), fun h => b.2 (a.2 h)⟩
  same := fun e => ⟨fun a o _ h => e a o h, fun ⟨x, y, h, q⟩ => ⟨x, y, e _ _ h, q⟩⟩
  keep := fun r n h => r.1 _ _ n h
  invR := fun i r => r.2 i
  volN := fun i v => by subst v; exact i.ne
  grow := fun {H H1 D o} i r h => by
    have n : j ≠ D := fun z => i.ne (by rw [z]; exact h)
    refine ⟨fun a u m q => ?_, fun z => ?_⟩
    · rw [upd_ne (ne_of_none q h)]; exact r.1 a u m q
    · obtain ⟨x, y, e, q⟩ := r.2 z
      exact ⟨x, y, by rw [upd_ne n]; exact e, q⟩

/-- one more volatile address: a list in the making -/
def Md.add (M : Md) (D : Addr) : Md where
  vol := fun a => M.vol a ∨ a = D
  R := fun H H' => M.R H H' ∧ ∀ o, H D = some o → H' D = some o
  inv := fun H => M.inv H ∧ H D ≠ none
  refl := fun H => ⟨M.refl H, fun _ h => h⟩
  trans := fun a b => ⟨M.trans a.1 b.1, fun o h => b.2 o (a.2 o h)⟩
  same := fun e => ⟨M.same e, fun o h => e D o h⟩
  keep := fun r n h => M.keep r.1 (fun z => n (.inl z)) h
  invR := fun {H H'} i r => ⟨M.invR i.1 r.1, fun z => by
    cases q : H D with
    | none => exact i.2 q
    | some o => rw [r.2 o q] at z; cases z⟩
  volN := fun i v => by
    rcases v with v | v
    · exact M.volN i.1 v
    · subst v; exact i.2
  grow := fun {H H1 D' o} i r h => by
    have n : D ≠ D' := fun z => i.2 (by rw [z]; exact h)
    exact ⟨M.grow i.1 r.1 h, fun u q => by rw [upd_ne n]; exact r.2 u q⟩

/-! ### what is known of the slots -/
inductive Ent
  | no
  | dat (d : PyData)
  | adr (a : Addr)
  | dic (f : Str → Option PyData)
/-- the entries of a dict with texts as keys -/
def DicOk (K : PySem.W.Frag) (vol : Addr → Prop) (H : Hp) (kvs : List (Key × V)) (f : Str → Option PyData) : Prop := ∀ s, match f s with
  | none => valV kvs (.inr s) = none
  | some d => ∃ v, valV kvs (.inr s) = some v ∧ Dt K vol H v d
abbrev Rho := List Ent
def EntOk (K : PySem.W.Frag) (vol : Addr → Prop) (H : Hp) : Option V → Ent → Prop
  | _, .no => True
  | some v, .dat d => Dt K vol H v d
  | none, .dat _ => False
  | o, .adr a => o = some (.ref a)
  | some v, .dic f => ∃ p kvs, v = .ref p ∧ ¬ vol p ∧ H p = some (.dK kvs) ∧ DicOk K vol H kvs f
  | none, .dic _ => False
abbrev Env (K : PySem.W.Frag) (vol : Addr → Prop) (H : Hp) : St → Rho → Prop := Paired (EntOk K vol H)
section
variable {K : PySem.W.Frag} {vol vol' : Addr → Prop} {H H' : Hp}
theorem DicOk.move (k : ∀ a o, ¬ vol a → H a = some o → H' a = some o ∧ ¬ vol' a) {kvs : List (Key × V)} {f : Str → Option PyData} (h : DicOk K vol H kvs f) : DicOk K vol' H' kvs f := fun s => by
  have z := h s
  cases e : f s with
  | none => rw [e] at z; exact z
  | some d =>
    rw [e] at z
    obtain ⟨v, h1, h2⟩ := z
    exact ⟨v, h1, Dt.move k d v h2⟩
theorem EntOk.move (k : ∀ a o, ¬ vol a → H a = some o → H' a = some o ∧ ¬ vol' a) {o : Option V} {e : Ent} (h : EntOk K vol H o e) : EntOk K vol' H' o e := by
  cases e with
  | no => cases o <;> exact trivial
  | dat d =>
    cases o with
    | none => exact h
    | some v => exact Dt.move k d v h
  | adr a => cases o <;> exact h
  | dic f =>
    cases o with
    | none => exact h
    | some v =>
      obtain ⟨p, kvs, h1, h2, h3, h4⟩ := h
      exact ⟨p, kvs, h1, (k p _ h2 h3).2, (k p _ h2 h3).1, h4.move k⟩
theorem Env.move (k : ∀ a o, ¬ vol a → H a = some o → H' a = some o ∧ ¬ vol' a) : ∀ {σ : St} {ρ : Rho}, Env K vol H σ ρ → Env K vol' H' σ ρ
  | _, _, .nil => .nil
  | _, _, .cons h t => .cons (EntOk.move k h) (Env.move k t)
theorem Env.get : ∀ {σ : St} {ρ : Rho} {i : Nat} {e : Ent}, Env K vol H σ ρ → ρ[i]? = some e → ∃ o, σ[i]? = some o ∧ EntOk K vol H o e
  | _, _, _, _, .nil, e => by simp at e
  | _, _, 0, _, .cons h _, e => by simp at e; subst e; exact ⟨_, rfl, h⟩
  | _, _, i + 1, x, .cons _ t, e => by
    obtain ⟨o, h1, h2⟩ := Env.get (i := i) (e := x) t (by simpa using e)
    exact ⟨o, by simpa using h1, h2⟩
theorem Env.set {o : Option V} {e : Ent} (h : EntOk K vol H o e) : ∀ {σ : St} {ρ : Rho} (i : Nat), Env K vol H σ ρ → Env K vol H (σ.set i o) (ρ.set i e)
  | _, _, _, .nil => .nil
  | _, _, 0, .cons _ t => .cons h t
  | _, _, i + 1, .cons q t => .cons q (Env.set h i t)
theorem Env.set0 {o : Option V} : ∀ {σ : St} {ρ : Rho} (i : Nat), Env K vol H σ ρ → Env K vol H (σ.set i o) (ρ.set i .no)
  | _, _, _, .nil => .nil
  | _, _, 0, .cons _ t => .cons (by cases o <;> exact trivial) t
  | _, _, i + 1, .cons q t => .cons q (Env.set0 i t)
theorem Env.str {i : Nat} {σ : St} {ρ : Rho} {x : Str} (h : Env K vol H σ ρ) (e : ρ[i]? = some (.dat (.str x))) : σ[i]? = some (some (.str x)) := by
  obtain ⟨o, h1, h2⟩ := h.get e
  cases o with
  | none => exact h2.elim
  | some v => cases h2; exact h1
theorem Env.dat {i : Nat} {σ : St} {ρ : Rho} {d : PyData} (h : Env K vol H σ ρ) (e : ρ[i]? = some (.dat d)) : ∃ v, σ[i]? = some (some v) ∧ Dt K vol H v d := by
  obtain ⟨o, h1, h2⟩ := h.get e
  cases o with
  | none => exact h2.elim
  | some v => exact ⟨v, h1, h2⟩
theorem Env.dic {i : Nat} {σ : St} {ρ : Rho} {f : Str → Option PyData} (h : Env K vol H σ ρ) (e : ρ[i]? = some (.dic f)) : ∃ p kvs, σ[i]? = some (some (.ref p)) ∧ ¬ vol p ∧ H p = some (.dK kvs) ∧ DicOk K vol H kvs f := by
  obtain ⟨o, h1, h2⟩ := h.get e
  cases o with
  | none => exact h2.elim
  | some v =>
    obtain ⟨p, kvs, rfl, r⟩ := h2
    exact ⟨p, kvs, h1, r⟩
theorem Env.adr {i : Nat} {σ : St} {ρ : Rho} {a : Addr} (h : Env K vol H σ ρ) (e : ρ[i]? = some (.adr a)) : σ[i]? = some (some (.ref a)) := by
  obtain ⟨o, h1, h2⟩ := h.get e
  cases o <;> (rw [h1]; exact congrArg some h2)
end
section
variable {M : Md} {K : PySem.W.Frag} {H H' : Hp}
theorem Md.mv (M : Md) (r : M.R H H') : ∀ a o, ¬ M.vol a → H a = some o → H' a = some o ∧ ¬ M.vol a := fun a o n h => ⟨M.keep r n h, n⟩
theorem Env.on {σ : St} {ρ : Rho} (r : M.R H H') (h : Env K M.vol H σ ρ) : Env K M.vol H' σ ρ := h.move (M.mv r)
theorem Dt.on {v : V} {d : PyData} (r : M.R H H') (h : Dt K M.vol H v d) : Dt K M.vol H' v d := Dt.move (M.mv r) d v h
theorem DtAll.on {v : List V} {d : List PyData} (r : M.R H H') (h : DtAll K M.vol H v d) : DtAll K M.vol H' v d := DtAll.move (M.mv r) d v h
theorem Md.fresh (M : Md) {p : Addr} (i : M.inv H) (h : H p = none) : ¬ M.vol p := fun v => M.volN i v h
theorem Md.new (M : Md) {p : Addr} {o : HO} (h : H p = none) : M.R H (upd H p o) := M.same (same_new h)
end

/-! ### readings over data -/
section
variable (M : Md) (K : PySem.W.Frag)
def EvD (te : TE) (ρ : Rho) (Φ : PyData → Prop) : Prop := ∀ (σ : St) (H : Hp), Env K M.vol H σ ρ → M.inv H → ∀ Q : VK, (∀ v H' d, M.R H H' → Dt K M.vol H' v d → Φ d → Q v H') → te σ H Q
def EvT (tt : TT) (ρ : Rho) (Φ : Bool → Prop) : Prop := ∀ (σ : St) (H : Hp), Env K M.vol H σ ρ → M.inv H → ∀ Q : Bool → Hp → Prop, (∀ b H', M.R H H' → Φ b → Q b H') → tt σ H Q
def EvA (ta : TA) (ρ : Rho) (Φ : List PyData → Prop) : Prop := ∀ (σ : St) (H : Hp), Env K M.vol H σ ρ → M.inv H → ∀ Q : List V → Hp → Prop, (∀ vs H' ds, M.R H H' → DtAll K M.vol H' vs ds → Φ ds → Q vs H') → ta σ H Q
/-- an operator by values -/
def RD (r : R2) (x y : PyData) (Φ : PyData → Prop) : Prop := ∀ (vx vy : V) (H : Hp), Dt K M.vol H vx x → Dt K M.vol H vy y → M.inv H → ∀ Q : VK, (∀ v H' d, M.R H H' → Dt K M.vol H' v d → Φ d → Q v H') → r vx vy H Q
def UD (r : V → Hp → VK → Prop) (x : PyData) (Φ : PyData → Prop) : Prop := ∀ (vx : V) (H : Hp), Dt K M.vol H vx x → M.inv H → ∀ Q : VK, (∀ v H' d, M.R H H' → Dt K M.vol H' v d → Φ d → Q v H') → r vx H Q
def CD (r : List V → Hp → VK → Prop) (xs : List PyData) (Φ : PyData → Prop) : Prop := ∀ (vs : List V) (H : Hp), DtAll K M.vol H vs xs → M.inv H → ∀ Q : VK, (∀ v H' d, M.R H H' → Dt K M.vol H' v d → Φ d → Q v H') → r vs H Q
def GD (g : TG) (x : PyData) (ρ : Rho) (Φ : Rho → Prop) : Prop := ∀ (v : V) (σ : St) (H : Hp), Env K M.vol H σ ρ → Dt K M.vol H v x → M.inv H → ∀ Q : St → Hp → Prop, (∀ σ' H' ρ', M.R H H' → Env K M.vol H' σ' ρ' → Φ ρ' → Q σ' H') → g v σ H Q
def GsD (g : TGs) (xs : List PyData) (ρ : Rho) (Φ : Rho → Prop) : Prop := ∀ (vs : List V) (σ : St) (H : Hp), Env K M.vol H σ ρ → DtAll K M.vol H vs xs → M.inv H → ∀ Q : St → Hp → Prop, (∀ σ' H' ρ', M.R H H' → Env K M.vol H' σ' ρ' → Φ ρ' → Q σ' H') → g vs σ H Q
end
section
variable {M : Md} {K : PySem.W.Frag} {ρ : Rho} {ta tb te : TE} {t u : TT} {Φ : PyData → Prop} {Ψ : Bool → Prop}
theorem EvD.mono {Φ' : PyData → Prop} (h : EvD M K te ρ Φ) (k : ∀ d, Φ d → Φ' d) : EvD M K te ρ Φ' := fun σ H e i Q q => h σ H e i Q fun v H' d r a p => q v H' d r a (k d p)
theorem EvT.mono {Φ' : Bool → Prop} (h : EvT M K t ρ Ψ) (k : ∀ d, Ψ d → Φ' d) : EvT M K t ρ Φ' := fun σ H e i Q q => h σ H e i Q fun v H' r p => q v H' r (k v p)
theorem ed_var {i : Nat} {d : PyData} (h : ρ[i]? = some (.dat d)) (q : Φ d) : EvD M K (tVar i) ρ Φ := fun σ H e _ Q k => by
  obtain ⟨v, h1, h2⟩ := e.dat h
  exact ⟨v, h1, k v H d (M.refl H) h2 q⟩
theorem ed_int {n : Int} (q : Φ (.int n)) : EvD M K (tC (.int n)) ρ Φ := fun σ H e _ Q k => k _ H _ (M.refl H) (.int n) q
theorem ed_bl {n : Bool} (q : Φ (.bool n)) : EvD M K (tC (.bl n)) ρ Φ := fun σ H e _ Q k => k _ H _ (M.refl H) (.bl n) q
theorem ed_str {n : Str} (q : Φ (.str n)) : EvD M K (tC (.str n)) ρ Φ := fun σ H e _ Q k => k _ H _ (M.refl H) (.str n) q
theorem ed_non (q : Φ .none) : EvD M K (tC .non) ρ Φ := fun σ H e _ Q k => k _ H _ (M.refl H) .non q
/-- a tuple of texts of the module -/
theorem ed_ktp {a : Addr} {xs : List V} {ds : List PyData} (h : ∀ H, SqT K H a xs) (hd : ∀ vol H, DtAll K vol H xs ds) (q : Φ (.tuple ds)) : EvD M K (tC (.ref a)) ρ Φ := fun σ H e _ Q k => k _ H _ (M.refl H) (.ktp h (hd _ H)) q
theorem ed_op {r : R2} (h : EvD M K ta ρ fun x => EvD M K tb ρ fun y => RD M K r x y Φ) : EvD M K (tOp r ta tb) ρ Φ := fun σ H e i Q k =>
  h σ H e i _ fun vx H1 x r1 dx hx => hx σ H1 (e.on r1) (M.invR i r1) _ fun vy H2 y r2 dy hy =>
    hy vx vy H2 (dx.on r2) dy (M.invR (M.invR i r1) r2) Q fun v H3 d r3 dv p => k v H3 d (M.trans (M.trans r1 r2) r3) dv p
theorem ed_un {r : V → Hp → VK → Prop} (h : EvD M K ta ρ fun x => UD M K r x Φ) : EvD M K (tUn r ta) ρ Φ := fun σ H e i Q k =>
  h σ H e i _ fun vx H1 x r1 dx hx => hx vx H1 dx (M.invR i r1) Q fun v H2 d r2 dv p => k v H2 d (M.trans r1 r2) dv p
theorem ed_if (h : EvT M K t ρ fun b => (b = true → EvD M K ta ρ Φ) ∧ (b = false → EvD M K tb ρ Φ)) : EvD M K (tIf t ta tb) ρ Φ := fun σ H e i Q k =>
  h σ H e i _ fun b H1 r1 hb => by
    have k' : ∀ v H' d, M.R H1 H' → Dt K M.vol H' v d → Φ d → Q v H' := fun v H' d r2 dv p => k v H' d (M.trans r1 r2) dv p
    cases b with
    | true => exact hb.1 rfl σ H1 (e.on r1) (M.invR i r1) Q k'
    | false => exact hb.2 rfl σ H1 (e.on r1) (M.invR i r1) Q k'
theorem ed_andV (h : EvD M K ta ρ fun x => ∃ c, x = .bool c ∧ (c = true → EvD M K tb ρ Φ) ∧ (c = false → Φ (.bool false))) : EvD M K (tAndV ta tb) ρ Φ := fun σ H e i Q k =>
  h σ H e i _ fun v H1 x r1 dx hx => by
    obtain ⟨c, rfl, h1, h2⟩ := hx
    cases dx
    refine ⟨c, rfl, ?_⟩
    cases c with
    | true => exact h1 rfl σ H1 (e.on r1) (M.invR i r1) Q fun v H' d r2 dv p => k v H' d (M.trans r1 r2) dv p
    | false => exact k _ H1 _ r1 (.bl false) (h2 rfl)
theorem ed_orV (h : EvD M K ta ρ fun x => ∃ c, x = .bool c ∧ (c = false → EvD M K tb ρ Φ) ∧ (c = true → Φ (.bool true))) : EvD M K (tOrV ta tb) ρ Φ := fun σ H e i Q k =>
  h σ H e i _ fun v H1 x r1 dx hx => by
    obtain ⟨c, rfl, h1, h2⟩ := hx
    cases dx
    refine ⟨c, rfl, ?_⟩
    cases c with
    | false => exact h1 rfl σ H1 (e.on r1) (M.invR i r1) Q fun v H' d r2 dv p => k v H' d (M.trans r1 r2) dv p
    | true => exact k _ H1 _ r1 (.bl true) (h2 rfl)
theorem ed_notV (h : EvD M K ta ρ fun x => ∃ c, x = .bool c ∧ Φ (.bool (!c))) : EvD M K (tNotV ta) ρ Φ := fun σ H e i Q k =>
  h σ H e i _ fun v H1 x r1 dx hx => by
    obtain ⟨c, rfl, h1⟩ := hx
    cases dx
    exact ⟨c, rfl, k _ H1 _ r1 (.bl _) h1⟩
theorem et_test (h : EvD M K ta ρ fun x => ∃ c, x = .bool c ∧ Ψ c) : EvT M K (tTest ta) ρ Ψ := fun σ H e i Q k =>
  h σ H e i _ fun v H1 x r1 dx hx => by
    obtain ⟨c, rfl, h1⟩ := hx
    cases dx
    exact ⟨c, rfl, k c H1 r1 h1⟩
theorem et_B (h : EvD M K ta ρ fun x => ∃ c, x = .bool c ∧ Ψ c) : EvT M K (tB ta) ρ Ψ := fun σ H e i Q k =>
  h σ H e i _ fun v H1 x r1 dx hx => by
    obtain ⟨c, rfl, h1⟩ := hx
    cases dx
    exact ⟨c, rfl, k c H1 r1 h1⟩
theorem et_and (h : EvT M K t ρ fun c => (c = true → EvT M K u ρ Ψ) ∧ (c = false → Ψ false)) : EvT M K (tAnd t u) ρ Ψ := fun σ H e i Q k =>
  h σ H e i _ fun c H1 r1 hx => by
    cases c with
    | true => exact hx.1 rfl σ H1 (e.on r1) (M.invR i r1) Q fun b H2 r2 p => k b H2 (M.trans r1 r2) p
    | false => exact k _ H1 r1 (hx.2 rfl)
theorem et_or (h : EvT M K t ρ fun c => (c = false → EvT M K u ρ Ψ) ∧ (c = true → Ψ true)) : EvT M K (tOr t u) ρ Ψ := fun σ H e i Q k =>
  h σ H e i _ fun c H1 r1 hx => by
    cases c with
    | false => exact hx.1 rfl σ H1 (e.on r1) (M.invR i r1) Q fun b H2 r2 p => k b H2 (M.trans r1 r2) p
    | true => exact k _ H1 r1 (hx.2 rfl)
theorem et_not (h : EvT M K t ρ fun c => Ψ (!c)) : EvT M K (tNot t) ρ Ψ := fun σ H e i Q k => h σ H e i _ fun c H1 r1 hx => k _ H1 r1 hx
theorem ea_nil {Φ : List PyData → Prop} (q : Φ []) : EvA M K tNil ρ Φ := fun σ H e i Q k => k [] H [] (M.refl H) .nil q
theorem ea_cons {Φ : List PyData → Prop} {tr : TA} (h : EvD M K ta ρ fun d => EvA M K tr ρ fun ds => Φ (d :: ds)) : EvA M K (tCons ta tr) ρ Φ := fun σ H e i Q k =>
  h σ H e i _ fun v H1 d r1 dv hd => hd σ H1 (e.on r1) (M.invR i r1) _ fun vs H2 ds r2 dvs p => k (v :: vs) H2 (d :: ds) (M.trans r1 r2) (.cons (dv.on r2) dvs) p
theorem ed_tup {ta : TA} (h : EvA M K ta ρ fun ds => ds.length ≤ 100000 ∧ Φ (.tuple ds)) : EvD M K (tTup ta) ρ Φ := fun σ H e i Q k =>
  h σ H e i _ fun vs H1 ds r1 dv hd => ⟨by rw [dv.length]; exact Nat.le_trans hd.1 (by decide), fun p hp =>
    k _ _ _ (M.trans r1 (M.new hp)) (.tup upd_same (M.fresh (M.invR i r1) hp) (dv.on (M.new hp))) hd.2⟩
theorem ed_lst {ta : TA} (h : EvA M K ta ρ fun ds => ds.length ≤ 100000 ∧ Φ (.list ds)) : EvD M K (tLst ta) ρ Φ := fun σ H e i Q k =>
  h σ H e i _ fun vs H1 ds r1 dv hd => ⟨by rw [dv.length]; exact Nat.le_trans hd.1 (by decide), fun p hp =>
    k _ _ _ (M.trans r1 (M.new hp)) (.lst upd_same (M.fresh (M.invR i r1) hp) (dv.on (M.new hp))) hd.2⟩
theorem ed_cb {r : List V → Hp → VK → Prop} {ta : TA} (h : EvA M K ta ρ fun ds => CD M K r ds Φ) : EvD M K (tCB r ta) ρ Φ := fun σ H e i Q k =>
  h σ H e i _ fun vs H1 ds r1 dv hd => hd vs H1 dv (M.invR i r1) Q fun v H2 d r2 dv p => k v H2 d (M.trans r1 r2) dv p
end
end DL
set_option Elab.async false
set_option linter.all false
set_option maxRecDepth 100000
set_option maxHeartbeats 2000000
namespace DL
open PySem L2

/-! ### operators, by names -/
def rAddI : R2 := rI0 fun i j => .int (i + j)
def rSubI : R2 := rI0 fun i j => .int (i - j)
def rMulI : R2 := rI CMul fun i j => .int (i * j)
def rModI : R2 := rI (fun _ j => j ≠ 0) fun i j => .int (i.fmod j)
def rDivI : R2 := rI CDivN fun i j => .int (i.fdiv j)
def rPowI : R2 := rI CPow fun i j => .int (i ^ j.toNat)
def rLtI : R2 := rI0 fun i j => .bl (decide (i < j))
def rLeI : R2 := rI0 fun i j => .bl (decide (i ≤ j))
def rGtI : R2 := rI0 fun i j => .bl (decide (j < i))
def rGeI : R2 := rI0 fun i j => .bl (decide (j ≤ i))
def rAddS : R2 := fun x y H Q => ∃ i j, x = .str i ∧ y = .str j ∧ i.length + j.length ≤ sizeLine ∧ Q (.str (i ++ j)) H
def rIsNo : R2 := fun x y H Q => y = .non ∧ Q (.bl (decide (x = .non))) H
def rNotNo : R2 := fun x y H Q => y = .non ∧ Q (.bl (!decide (x = .non))) H
def okEq (d e : PyData) : Prop := d.plain = true ∧ e.plain = true ∧ min d.depth e.depth ≤ 32
def rEqP (K : PySem.W.Frag) : R2 := fun x y H Q => ∃ d e, Dp K H x d ∧ Dp K H y e ∧ okEq d e ∧ Q (.bl (PyData.eqv d e)) H
def rNeP (K : PySem.W.Frag) : R2 := fun x y H Q => ∃ d e, Dp K H x d ∧ Dp K H y e ∧ okEq d e ∧ Q (.bl (!PyData.eqv d e)) H
def okIn (d : PyData) (es : List PyData) : Prop := d.plain = true ∧ PyData.plainAll es = true ∧ min (PyData.depthAll es) d.depth ≤ 32
def rInP (K : PySem.W.Frag) : R2 := fun x y H Q => ∃ d es, Dp K H x d ∧ (Dp K H y (.list es) ∨ Dp K H y (.tuple es)) ∧ okIn d es ∧ Q (.bl (es.any fun e => PyData.eqv e d)) H
def rNotInP (K : PySem.W.Frag) : R2 := fun x y H Q => ∃ d es, Dp K H x d ∧ (Dp K H y (.list es) ∨ Dp K H y (.tuple es)) ∧ okIn d es ∧ Q (.bl (!es.any fun e => PyData.eqv e d)) H
section
variable {X : Cx}
theorem oAddI : OpR X (binaryOp .Add) rAddI := op_add
theorem oSubI : OpR X (binaryOp .Sub) rSubI := op_sub
theorem oMulI : OpR X (binaryOp .Mult) rMulI := op_mul
theorem oModI : OpR X (binaryOp .Mod) rModI := op_modN
theorem oDivI : OpR X (binaryOp .FloorDiv) rDivI := op_fdivN
theorem oPowI : OpR X (binaryOp .Pow) rPowI := op_pow
theorem oLtI : OpR X (compareOp .Lt) rLtI := op_lt
theorem oLeI : OpR X (compareOp .LtE) rLeI := op_le
theorem oGtI : OpR X (compareOp .Gt) rGtI := op_gt
theorem oGeI : OpR X (compareOp .GtE) rGeI := op_ge
theorem oAddS : OpR X (binaryOp .Add) rAddS := op_add_str
theorem oIsNo : OpR X (compareOp .Is) rIsNo := op_isN
theorem oNotNo : OpR X (compareOp .IsNot) rNotNo := op_notN
theorem oEqP (hu : X.A.units + 64 < cLine) : OpR X (compareOp .Eq) (rEqP X.K) := by
  intro pins s σ H x y v u Q I rx ry h
  obtain ⟨d, e, hd, he, ⟨sd, se, hm⟩, q⟩ := h
  obtain ⟨as, r1⟩ := Dp.reads I d x v hd rx
  obtain ⟨bs, r2⟩ := Dp.reads I e y u he ry
  exact SeqAt.eq_plain r1 r2 sd se (by omega) ⟨.bl _, H, I, rfl, q⟩
theorem oNeP (hu : X.A.units + 64 < cLine) : OpR X (compareOp .NotEq) (rNeP X.K) := by
  intro pins s σ H x y v u Q I rx ry h
  obtain ⟨d, e, hd, he, ⟨sd, se, hm⟩, q⟩ := h
  obtain ⟨as, r1⟩ := Dp.reads I d x v hd rx
  obtain ⟨bs, r2⟩ := Dp.reads I e y u he ry
  exact SeqAt.ne_plain r1 r2 sd se (by omega) ⟨.bl _, H, I, rfl, q⟩
theorem oInP (hu : X.A.units + 64 < cLine) : OpR X (compareOp .In) (rInP X.K) := by
  intro pins s σ H x y v u Q I rx ry h
  obtain ⟨d, es, hd, he, ⟨sd, se, hm⟩, q⟩ := h
  obtain ⟨as, r1⟩ := Dp.reads I d x v hd rx
  rcases he with he | he
  · obtain ⟨bs, r2⟩ := Dp.reads I _ y u he ry
    exact SeqAt.in_list_data r2 r1 se sd (by omega) ⟨.bl _, H, I, rfl, q⟩
  · obtain ⟨bs, r2⟩ := Dp.reads I _ y u he ry
    exact SeqAt.in_tuple_data r2 r1 se sd (by omega) ⟨.bl _, H, I, rfl, q⟩
theorem oNotInP (hu : X.A.units + 64 < cLine) : OpR X (compareOp .NotIn) (rNotInP X.K) := by
  intro pins s σ H x y v u Q I rx ry h
  obtain ⟨d, es, hd, he, ⟨sd, se, hm⟩, q⟩ := h
  obtain ⟨as, r1⟩ := Dp.reads I d x v hd rx
  rcases he with he | he
  · obtain ⟨bs, r2⟩ := Dp.reads I _ y u he ry
    exact SeqAt.notIn_list_data r2 r1 se sd (by omega) ⟨.bl _, H, I, rfl, q⟩
  · obtain ⟨bs, r2⟩ := Dp.reads I _ y u he ry
    exact SeqAt.notIn_tuple_data r2 r1 se sd (by omega) ⟨.bl _, H, I, rfl, q⟩
end
section
variable {M : Md} {K : PySem.W.Frag} {Φ : PyData → Prop} {x y : PyData}
theorem rd_addI {i j : Int} (q : Φ (.int (i + j))) : RD M K rAddI (.int i) (.int j) Φ := fun vx vy H dx dy _ Q k => by cases dx; cases dy; exact ⟨i, j, rfl, rfl, k _ H _ (M.refl H) (.int _) q⟩
theorem rd_subI {i j : Int} (q : Φ (.int (i - j))) : RD M K rSubI (.int i) (.int j) Φ := fun vx vy H dx dy _ Q k => by cases dx; cases dy; exact ⟨i, j, rfl, rfl, k _ H _ (M.refl H) (.int _) q⟩
theorem rd_mulI {i j : Int} (h : CMul i j) (q : Φ (.int (i * j))) : RD M K rMulI (.int i) (.int j) Φ := fun vx vy H dx dy _ Q k => by cases dx; cases dy; exact ⟨i, j, rfl, rfl, h, k _ H _ (M.refl H) (.int _) q⟩
theorem rd_modI {i j : Int} (h : j ≠ 0) (q : Φ (.int (i.fmod j))) : RD M K rModI (.int i) (.int j) Φ := fun vx vy H dx dy _ Q k => by cases dx; cases dy; exact ⟨i, j, rfl, rfl, h, k _ H _ (M.refl H) (.int _) q⟩
theorem rd_divI {i j : Int} (h : CDivN i j) (q : Φ (.int (i.fdiv j))) : RD M K rDivI (.int i) (.int j) Φ := fun vx vy H dx dy _ Q k => by cases dx; cases dy; exact ⟨i, j, rfl, rfl, h, k _ H _ (M.refl H) (.int _) q⟩
theorem rd_powI {i j : Int} (h : CPow i j) (q : Φ (.int (i ^ j.toNat))) : RD M K rPowI (.int i) (.int j) Φ := fun vx vy H dx dy _ Q k => by cases dx; cases dy; exact ⟨i, j, rfl, rfl, h, k _ H _ (M.refl H) (.int _) q⟩
theorem rd_ltI {i j : Int} (q : Φ (.bool (decide (i < j)))) : RD M K rLtI (.int i) (.int j) Φ := fun vx vy H dx dy _ Q k => by cases dx; cases dy; exact ⟨i, j, rfl, rfl, k _ H _ (M.refl H) (.bl _) q⟩
theorem rd_leI {i j : Int} (q : Φ (.bool (decide (i ≤ j)))) : RD M K rLeI (.int i) (.int j) Φ := fun vx vy H dx dy _ Q k => by cases dx; cases dy; exact ⟨i, j, rfl, rfl, k _ H _ (M.refl H) (.bl _) q⟩
theorem rd_gtI {i j : Int} (q : Φ (.bool (decide (j < i)))) : RD M K rGtI (.int i) (.int j) Φ := fun vx vy H dx dy _ Q k => by cases dx; cases dy; exact ⟨i, j, rfl, rfl, k _ H _ (M.refl H) (.bl _) q⟩
theorem rd_geI {i j : Int} (q : Φ (.bool (decide (j ≤ i)))) : RD M K rGeI (.int i) (.int j) Φ := fun vx vy H dx dy _ Q k => by cases dx; cases dy; exact ⟨i, j, rfl, rfl, k _ H _ (M.refl H) (.bl _) q⟩
theorem rd_addS {i j : Str} (h : i.length + j.length ≤ 10000000) (q : Φ (.str (i ++ j))) : RD M K rAddS (.str i) (.str j) Φ := fun vx vy H dx dy _ Q k => by
  cases dx; cases dy
  exact ⟨i, j, rfl, rfl, Nat.le_trans h (by decide), k _ H _ (M.refl H) (.str _) q⟩
def isNo : PyData → Bool
  | .none => true
  | _ => false
theorem rd_isNo (q : Φ (.bool (isNo x))) : RD M K rIsNo x .none Φ := fun vx vy H dx dy _ Q k => by
  cases dy
  refine ⟨rfl, k _ H (.bool (isNo x)) (M.refl H) ?_ q⟩
  have e : decide (vx = V.non) = isNo x := by cases dx <;> rfl
  rw [e]; exact .bl _
theorem rd_notNo (q : Φ (.bool (!isNo x))) : RD M K rNotNo x .none Φ := fun vx vy H dx dy _ Q k => by
  cases dy
  refine ⟨rfl, k _ H (.bool (!isNo x)) (M.refl H) ?_ q⟩
  have e : decide (vx = V.non) = isNo x := by cases dx <;> rfl
  rw [e]; exact .bl _
theorem rd_eqP (h : okEq x y) (q : Φ (.bool (PyData.eqv x y))) : RD M K (rEqP K) x y Φ := fun vx vy H dx dy _ Q k => ⟨x, y, Dt.dp _ _ dx, Dt.dp _ _ dy, h, k _ H _ (M.refl H) (.bl _) q⟩
theorem rd_neP (h : okEq x y) (q : Φ (.bool (!PyData.eqv x y))) : RD M K (rNeP K) x y Φ := fun vx vy H dx dy _ Q k => ⟨x, y, Dt.dp _ _ dx, Dt.dp _ _ dy, h, k _ H _ (M.refl H) (.bl _) q⟩
theorem rd_inL {es : List PyData} (h : okIn x es) (q : Φ (.bool (es.any fun e => PyData.eqv e x))) : RD M K (rInP K) x (.list es) Φ := fun vx vy H dx dy _ Q k => ⟨x, es, Dt.dp _ _ dx, .inl (Dt.dp _ _ dy), h, k _ H _ (M.refl H) (.bl _) q⟩
theorem rd_inT {es : List PyData} (h : okIn x es) (q : Φ (.bool (es.any fun e => PyData.eqv e x))) : RD M K (rInP K) x (.tuple es) Φ := fun vx vy H dx dy _ Q k => ⟨x, es, Dt.dp _ _ dx, .inr (Dt.dp _ _ dy), h, k _ H _ (M.refl H) (.bl _) q⟩
theorem rd_ninL {es : List PyData} (h : okIn x es) (q : Φ (.bool (!es.any fun e => PyData.eqv e x))) : RD M K (rNotInP K) x (.list es) Φ := fun vx vy H dx dy _ Q k => ⟨x, es, Dt.dp _ _ dx, .inl (Dt.dp _ _ dy), h, k _ H _ (M.refl H) (.bl _) q⟩
theorem rd_ninT {es : List PyData} (h : okIn x es) (q : Φ (.bool (!es.any fun e => PyData.eqv e x))) : RD M K (rNotInP K) x (.tuple es) Φ := fun vx vy H dx dy _ Q k => ⟨x, es, Dt.dp _ _ dx, .inr (Dt.dp _ _ dy), h, k _ H _ (M.refl H) (.bl _) q⟩
/-- the chain a <= b <= c -/
theorem ed_chain {r r' : R2} {ρ : Rho} {ta tb tc : TE} (h : EvD M K ta ρ fun x => EvD M K tb ρ fun y => RD M K r x y fun z => ∃ c, z = .bool c ∧ (c = true → EvD M K tc ρ fun w => RD M K r' y w Φ) ∧ (c = false → Φ (.bool false))) :
    EvD M K (tChain r r' ta tb tc) ρ Φ := fun σ H e i Q k =>
  h σ H e i _ fun vx H1 x r1 dx hx => hx σ H1 (e.on r1) (M.invR i r1) _ fun vy H2 y r2 dy hy =>
    hy vx vy H2 (dx.on r2) dy (M.invR (M.invR i r1) r2) _ fun v H3 d r3 dv hz => by
      obtain ⟨c, rfl, h1, h2⟩ := hz
      cases dv
      refine ⟨c, rfl, ?_⟩
      have r13 := M.trans (M.trans r1 r2) r3
      cases c with
      | true => exact h1 rfl σ H3 (e.on r13) (M.invR i r13) _ fun vw H4 w r4 dw hw => hw vy vw H4 (dy.on (M.trans r3 r4)) dw (M.invR i (M.trans r13 r4)) Q fun v H5 d r5 dv p => k v H5 d (M.trans (M.trans r13 r4) r5) dv p
      | false => exact k _ H3 _ r13 (.bl false) (h2 rfl)

/-! ### lists, tuples -/
def rCatL : R2 := rCat
theorem oCatL {X : Cx} : OpR X (binaryOp .Add) rCatL := op_cat
theorem rd_catL {xs ys : List PyData} (h : xs.length + ys.length ≤ 1000000) (q : Φ (.list (xs ++ ys))) : RD M K rCatL (.list xs) (.list ys) Φ := fun vx vy H dx dy i Q k => by
  cases dx with
  | lst hx nx ax =>
    cases dy with
    | lst hy ny ay =>
      refine ⟨_, _, _, _, rfl, rfl, hx, hy, by rw [ax.length, ay.length]; exact Nat.le_trans h (by decide), fun p hp => ?_⟩
      exact k _ _ _ (M.new hp) (.lst upd_same (M.fresh i hp) ((ax.append ay).on (M.new hp))) q
theorem oCatT {X : Cx} : OpR X (binaryOp .Add) (rCatA X.K) := op_catA
theorem Dt.tupE {H : Hp} {v : V} {ds : List PyData} (h : Dt K M.vol H v (.tuple ds)) : ∃ a xs, v = .ref a ∧ SqT K H a xs ∧ DtAll K M.vol H xs ds := by
  cases h with
  | tup h1 _ h2 => exact ⟨_, _, rfl, SqT.of h1, h2⟩
  | ktp h1 h2 => exact ⟨_, _, rfl, h1 H, h2⟩
theorem DtAll.nil_of {H : Hp} {ds : List PyData} (h : DtAll K M.vol H [] ds) : ds = [] := by cases h; rfl
theorem rd_catT {xs ys : List PyData} (h : xs.length + ys.length ≤ 1000000) (q : Φ (.tuple (xs ++ ys))) : RD M K (rCatA K) (.tuple xs) (.tuple ys) Φ := fun vx vy H dx dy i Q k => by
  obtain ⟨a, as, ea, ha, aa⟩ := dx.tupE
  obtain ⟨b, bs, eb, hb, ab⟩ := dy.tupE
  refine ⟨a, b, as, bs, ea, eb, ha, hb, by rw [aa.length, ab.length]; exact Nat.le_trans h (by decide), fun z => ?_, fun _ z => ?_, fun _ _ p hp => ?_⟩
  · subst z
    have e := aa.nil_of
    subst e
    rw [← eb]; exact k _ H _ (M.refl H) dy q
  · subst z
    have e := ab.nil_of
    subst e
    rw [← ea]; rw [List.append_nil] at q; exact k _ H _ (M.refl H) dx q
  · exact k _ _ _ (M.new hp) (.tup upd_same (M.fresh i hp) ((aa.append ab).on (M.new hp))) q
def rRepL : R2 := rRep
theorem oRepL {X : Cx} : OpR X (binaryOp .Mult) rRepL := op_rep
theorem DtAll.rep {H : Hp} {vs : List V} {ds : List PyData} (h : DtAll K M.vol H vs ds) : ∀ n : Nat, DtAll K M.vol H (List.replicate n vs).flatten (List.replicate n ds).flatten
  | 0 => .nil
  | n + 1 => by
    rw [List.replicate_succ, List.replicate_succ, List.flatten_cons, List.flatten_cons]
    exact h.append (DtAll.rep h n)
theorem rd_repL {xs : List PyData} {n : Int} (h0 : 0 ≤ n) (h : xs.length * n.toNat ≤ 1000000) (h1 : n ≤ 1000000) (q : Φ (.list (List.replicate n.toNat xs).flatten)) : RD M K rRepL (.list xs) (.int n) Φ := fun vx vy H dx dy i Q k => by
  cases dy
  cases dx with
  | lst hx nx ax =>
    refine ⟨_, n, _, rfl, rfl, hx, by omega, by omega, by rw [ax.length]; exact Nat.le_trans h (by decide), fun p hp => ?_⟩
    exact k _ _ _ (M.new hp) (.lst upd_same (M.fresh i hp) ((ax.rep n.toNat).on (M.new hp))) q
theorem ixL_of {xs : List PyData} {vs : List V} {H : Hp} {n : Int} {d : PyData} (a : DtAll K M.vol H vs xs) (h : atI xs n = some d) : ∃ v, atI vs n = some v ∧ Dt K M.vol H v d := by
  unfold atI at h ⊢
  rw [a.length]
  cases e : ixN xs.length n with
  | none => rw [e] at h; cases h
  | some j =>
    rw [e] at h
    exact a.getD h
def rIxLi (K : PySem.W.Frag) : R2 := rIxL K
def rIxTu (K : PySem.W.Frag) : R2 := rIxT K
theorem ixLi {X : Cx} : IxR X (rIxLi X.K) := ix_list
theorem ixTu {X : Cx} : IxR X (rIxTu X.K) := ix_tup
theorem rd_ixL {xs : List PyData} {n : Int} {d : PyData} (h : atI xs n = some d) (q : Φ d) : RD M K (rIxLi K) (.list xs) (.int n) Φ := fun vx vy H dx dy i Q k => by
  cases dy
  cases dx with
  | lst hx nx ax =>
    obtain ⟨v, h1, h2⟩ := ixL_of ax h
    exact ⟨_, _, n, v, rfl, rfl, SqL.of hx, h1, k v H d (M.refl H) h2 q⟩
theorem rd_ixT {xs : List PyData} {n : Int} {d : PyData} (h : atI xs n = some d) (q : Φ d) : RD M K (rIxTu K) (.tuple xs) (.int n) Φ := fun vx vy H dx dy i Q k => by
  cases dy
  obtain ⟨a, as, ea, ha, aa⟩ := dx.tupE
  obtain ⟨v, h1, h2⟩ := ixL_of aa h
  exact ⟨_, _, n, v, ea, rfl, ha, h1, k v H d (M.refl H) h2 q⟩
/-- slices -/
def EvO (M : Md) (K : PySem.W.Frag) (t : TO) (ρ : Rho) (Φ : Option Int → Prop) : Prop := ∀ (σ : St) (H : Hp), Env K M.vol H σ ρ → M.inv H → ∀ Q : Option Int → Hp → Prop, (∀ o H', M.R H H' → Φ o → Q o H') → t σ H Q
theorem eo_no {ρ : Rho} {Φ : Option Int → Prop} (q : Φ none) : EvO M K tNoPart ρ Φ := fun σ H e i Q k => k _ H (M.refl H) q
theorem eo_some {ρ : Rho} {te : TE} {Φ : Option Int → Prop} (h : EvD M K te ρ fun d => ∃ n, d = .int n ∧ Φ (some n)) : EvO M K (tPart te) ρ Φ := fun σ H e i Q k =>
  h σ H e i _ fun v H1 d r1 dv hd => by
    obtain ⟨n, rfl, q⟩ := hd
    cases dv
    exact ⟨n, rfl, k _ H1 r1 q⟩
def cutD {α : Type} (xs : List α) (lo hi : Option Int) : List α := (xs.drop (HT.sIx xs.length 0 lo)).take (HT.sIx xs.length xs.length hi - HT.sIx xs.length 0 lo)
theorem DtAll.cut {H : Hp} {vs : List V} {ds : List PyData} (h : DtAll K M.vol H vs ds) (lo hi : Option Int) : DtAll K M.vol H (cutV vs lo hi) (cutD ds lo hi) := by
  unfold cutV cutD
  rw [h.length]
  exact (h.drop _).take _
def SD (M : Md) (K : PySem.W.Frag) (r : V → Option Int → Option Int → Hp → VK → Prop) (x : PyData) (lo hi : Option Int) (Φ : PyData → Prop) : Prop := ∀ (vx : V) (H : Hp), Dt K M.vol H vx x → M.inv H → ∀ Q : VK, (∀ v H' d, M.R H H' → Dt K M.vol H' v d → Φ d → Q v H') → r vx lo hi H Q
theorem ed_sl {r : V → Option Int → Option Int → Hp → VK → Prop} {ρ : Rho} {te : TE} {tl th : TO} (h : EvD M K te ρ fun x => EvO M K tl ρ fun lo => EvO M K th ρ fun hi => SD M K r x lo hi Φ) : EvD M K (tSl r te tl th) ρ Φ := fun σ H e i Q k =>
  h σ H e i _ fun vx H1 x r1 dx hx => hx σ H1 (e.on r1) (M.invR i r1) _ fun lo H2 r2 hl => hl σ H2 (e.on (M.trans r1 r2)) (M.invR i (M.trans r1 r2)) _ fun hi H3 r3 hs =>
    hs vx H3 (dx.on (M.trans r2 r3)) (M.invR i (M.trans (M.trans r1 r2) r3)) Q fun v H4 d r4 dv p => k v H4 d (M.trans (M.trans (M.trans r1 r2) r3) r4) dv p
def rSlLi (K : PySem.W.Frag) := rSlL K
theorem slLi {X : Cx} : SlR X (rSlLi X.K) := sl_list
theorem sd_L {xs : List PyData} {lo hi : Option Int} (q : Φ (.list (cutD xs lo hi))) : SD M K (rSlLi K) (.list xs) lo hi Φ := fun vx H dx i Q k => by
  cases dx with
  | lst hx nx ax =>
    exact ⟨_, _, rfl, SqL.of hx, fun p hp => k _ _ _ (M.new hp) (.lst upd_same (M.fresh i hp) ((ax.cut lo hi).on (M.new hp))) q⟩
theorem cut_all {xs : List PyData} {lo hi : Option Int} (h : HT.sIx xs.length 0 lo = 0 ∧ HT.sIx xs.length xs.length hi = xs.length) : cutD xs lo hi = xs := by
  unfold cutD
  rw [h.1, h.2, List.drop_zero, Nat.sub_zero, List.take_length]
theorem slTu {X : Cx} : SlR X (rSlA X.K) := sl_tupA
theorem sd_T {xs : List PyData} {lo hi : Option Int} (q : Φ (.tuple (cutD xs lo hi))) : SD M K (rSlA K) (.tuple xs) lo hi Φ := fun vx H dx i Q k => by
  obtain ⟨a, as, ea, ha, aa⟩ := dx.tupE
  refine ⟨a, as, ea, ha, fun z => ?_, fun _ p hp => ?_⟩
  · rw [aa.length] at z
    rw [cut_all z] at q
    rw [← ea]; exact k _ H _ (M.refl H) dx q
  · exact k _ _ _ (M.new hp) (.tup upd_same (M.fresh i hp) ((aa.cut lo hi).on (M.new hp))) q
def rSlSt := rSlS
theorem slSt {X : Cx} : SlR X rSlSt := sl_str
theorem sd_S {x : Str} {lo hi : Option Int} (h : x.length ≤ 10000000) (q : Φ (.str (cutS x lo hi))) : SD M K rSlSt (.str x) lo hi Φ := fun vx H dx i Q k => by
  cases dx
  exact ⟨x, rfl, Nat.le_trans h (by decide), k _ H _ (M.refl H) (.str _) q⟩
theorem ed_revL {ρ : Rho} {te : TE} (h : EvD M K te ρ fun x => ∃ xs, x = .list xs ∧ Φ (.list xs.reverse)) : EvD M K (tRevL K te) ρ Φ := fun σ H e i Q k =>
  h σ H e i _ fun vx H1 x r1 dx hx => by
    obtain ⟨xs, rfl, q⟩ := hx
    cases dx with
    | lst hx nx ax =>
      exact ⟨_, _, rfl, SqL.of hx, fun p hp => k _ _ _ (M.trans r1 (M.new hp)) (.lst upd_same (M.fresh (M.invR i r1) hp) (ax.reverse.on (M.new hp))) q⟩
end

/-! ### built-ins by name -/
def rLenQ (K : PySem.W.Frag) : List V → Hp → VK → Prop := fun xs H Q => (∃ p ys, xs = [.ref p] ∧ (SqL K H p ys ∨ SqT K H p ys) ∧ Q (.int ys.length) H) ∨ (∃ z, xs = [.str z] ∧ z.length ≤ sizeLine ∧ Q (.int z.length) H)
theorem cLen {X : Cx} : CallR X (.builtin "len") (rLenQ X.K) := CallR.or call_len_seq call_len_str
def rAbs : List V → Hp → VK → Prop := fun xs H Q => ∃ i, xs = [.int i] ∧ Q (.int (if i < 0 then -i else i)) H
theorem cAbs {X : Cx} : CallR X (.builtin "abs") rAbs := call_abs
def rMaxI : List V → Hp → VK → Prop := fun xs H Q => ∃ i j, xs = [.int i, .int j] ∧ Q (.int (if j > i then j else i)) H
theorem cMax {X : Cx} (hc : X.calm = true) : CallR X (.builtin "max") rMaxI := call_max2 hc
def rMinI : List V → Hp → VK → Prop := fun xs H Q => ∃ i j, xs = [.int i, .int j] ∧ Q (.int (if j < i then j else i)) H
theorem cMin {X : Cx} (hc : X.calm = true) : CallR X (.builtin "min") rMinI := call_min2 hc
def rIntT : List V → Hp → VK → Prop := fun xs H Q => (∃ i, xs = [.int i] ∧ Q (.int i) H) ∨ ∃ k, xs = [.bl k] ∧ Q (.int (if k then 1 else 0)) H
theorem cInt {X : Cx} : CallR X (.type "int") rIntT := call_int1
def rStrT : List V → Hp → VK → Prop := fun xs H Q => (∃ i, xs = [.int i] ∧ i.natAbs.log2 < 1920 ∧ Q (.str (toString i)) H) ∨ ∃ a, xs = [.str a] ∧ Q (.str a) H
theorem cStr {X : Cx} : CallR X (.type "str") rStrT := CallR.or call_str_int SkE.call_str_str
def rListT (K : PySem.W.Frag) : List V → Hp → VK → Prop := fun xs H Q => ∃ p ys, xs = [.ref p] ∧ (SqL K H p ys ∨ SqT K H p ys) ∧ ∀ l, H l = none → Q (.ref l) (upd H l (.lst ys))
theorem cList {X : Cx} : CallR X (.type "list") (rListT X.K) := call_list_of
def rTupleT (K : PySem.W.Frag) : List V → Hp → VK → Prop := fun xs H Q => ∃ p ys, xs = [.ref p] ∧ ((SqL K H p ys ∧ ∀ l, H l = none → Q (.ref l) (upd H l (.tup ys))) ∨ (SqT K H p ys ∧ Q (.ref p) H))
theorem cTuple {X : Cx} : CallR X (.type "tuple") (rTupleT X.K) := call_tuple_of
theorem cAll {X : Cx} (hc : X.calm = true) : CallR X (.builtin "all") (rAll X.K) := cr_all hc
section
variable {M : Md} {K : PySem.W.Frag} {Φ : PyData → Prop} {x y : PyData}
theorem cd_lenL {ds : List PyData} (q : Φ (.int ds.length)) : CD M K (rLenQ K) [.list ds] Φ := fun vs H dv i Q k => by
  cases dv with
  | cons d1 d2 =>
    cases d2
    cases d1 with
    | lst hx nx ax => exact .inl ⟨_, _, rfl, .inl (SqL.of hx), by rw [ax.length]; exact k _ H _ (M.refl H) (.int _) q⟩
theorem cd_lenT {ds : List PyData} (q : Φ (.int ds.length)) : CD M K (rLenQ K) [.tuple ds] Φ := fun vs H dv i Q k => by
  cases dv with
  | cons d1 d2 =>
    cases d2
    obtain ⟨a, as, ea, ha, aa⟩ := d1.tupE
    subst ea
    exact .inl ⟨_, _, rfl, .inr ha, by rw [aa.length]; exact k _ H _ (M.refl H) (.int _) q⟩
theorem cd_lenS {z : Str} (h : z.length ≤ 10000000) (q : Φ (.int z.length)) : CD M K (rLenQ K) [.str z] Φ := fun vs H dv i Q k => by
  cases dv with
  | cons d1 d2 =>
    cases d2
    cases d1
    exact .inr ⟨z, rfl, Nat.le_trans h (by decide), k _ H _ (M.refl H) (.int _) q⟩
theorem cd_abs {i : Int} (q : Φ (.int (if i < 0 then -i else i))) : CD M K rAbs [.int i] Φ := fun vs H dv _ Q k => by
  cases dv with
  | cons d1 d2 => cases d2; cases d1; exact ⟨i, rfl, k _ H _ (M.refl H) (.int _) q⟩
theorem cd_max {i j : Int} (q : Φ (.int (if j > i then j else i))) : CD M K rMaxI [.int i, .int j] Φ := fun vs H dv _ Q k => by
  cases dv with
  | cons d1 d2 => cases d2 with | cons d2 d3 => cases d3; cases d2; cases d1; exact ⟨i, j, rfl, k _ H _ (M.refl H) (.int _) q⟩
theorem cd_min {i j : Int} (q : Φ (.int (if j < i then j else i))) : CD M K rMinI [.int i, .int j] Φ := fun vs H dv _ Q k => by
  cases dv with
  | cons d1 d2 => cases d2 with | cons d2 d3 => cases d3; cases d2; cases d1; exact ⟨i, j, rfl, k _ H _ (M.refl H) (.int _) q⟩
theorem cd_intI {i : Int} (q : Φ (.int i)) : CD M K rIntT [.int i] Φ := fun vs H dv _ Q k => by
  cases dv with
  | cons d1 d2 => cases d2; cases d1; exact .inl ⟨i, rfl, k _ H _ (M.refl H) (.int _) q⟩
theorem cd_intB {b : Bool} (q : Φ (.int (if b then 1 else 0))) : CD M K rIntT [.bool b] Φ := fun vs H dv _ Q k => by
  cases dv with
  | cons d1 d2 => cases d2; cases d1; exact .inr ⟨b, rfl, k _ H _ (M.refl H) (.int _) q⟩
theorem cd_strI {i : Int} (h : i.natAbs.log2 < 1920) (q : Φ (.str (toString i))) : CD M K rStrT [.int i] Φ := fun vs H dv _ Q k => by
  cases dv with
  | cons d1 d2 => cases d2; cases d1; exact .inl ⟨i, rfl, h, k _ H _ (M.refl H) (.str _) q⟩
theorem cd_strS {z : Str} (q : Φ (.str z)) : CD M K rStrT [.str z] Φ := fun vs H dv _ Q k => by
  cases dv with
  | cons d1 d2 => cases d2; cases d1; exact .inr ⟨z, rfl, k _ H _ (M.refl H) (.str _) q⟩
theorem cd_listT {ds : List PyData} (q : Φ (.list ds)) : CD M K (rListT K) [.tuple ds] Φ := fun vs H dv i Q k => by
  cases dv with
  | cons d1 d2 =>
    cases d2
    obtain ⟨a, as, ea, ha, aa⟩ := d1.tupE
    subst ea
    exact ⟨_, _, rfl, .inr ha, fun p hp => k _ _ _ (M.new hp) (.lst upd_same (M.fresh i hp) (aa.on (M.new hp))) q⟩
theorem cd_tupleL {ds : List PyData} (q : Φ (.tuple ds)) : CD M K (rTupleT K) [.list ds] Φ := fun vs H dv i Q k => by
  cases dv with
  | cons d1 d2 =>
    cases d2
    cases d1 with
    | lst hx nx ax => exact ⟨_, _, rfl, .inl ⟨SqL.of hx, fun p hp => k _ _ _ (M.new hp) (.tup upd_same (M.fresh i hp) (ax.on (M.new hp))) q⟩⟩
theorem cd_all {bs : List Bool} (q : Φ (.bool (bs.all id))) : CD M K (rAll K) [.list (bs.map PyData.bool)] Φ := fun vs H dv i Q k => by
  cases dv with
  | cons d1 d2 =>
    cases d2
    cases d1 with
    | lst hx nx ax =>
      have e := ax.of_bools
      subst e
      exact ⟨_, bs, rfl, SqL.of hx, k _ H _ (M.refl H) (.bl _) q⟩
/-- isinstance(x, T), T a built-in class -/
def tyN : PyData → String
  | .none => "NoneType"
  | .bool _ => "bool"
  | .int _ => "int"
  | .str _ => "str"
  | .list _ => "list"
  | .tuple _ => "tuple"
  | .dict _ => "dict"
theorem ed_isi {ρ : Rho} {te : TE} {T : String} (h : EvD M K te ρ fun d => ∃ b, kitB (tyN d) T = some b ∧ Φ (.bool b)) : EvD M K (tCB (rIsi K) (tCons te (tCons (tC (.ty T)) tNil))) ρ Φ := fun σ H e i Q k =>
  h σ H e i _ fun v H1 d r1 dv hd => by
    obtain ⟨b, hb, q⟩ := hd
    refine ⟨v, .ty T, .type (tyN d), .type T, b, rfl, .ty T, ?_, kit_ty hb, k _ H1 _ r1 (.bl b) q⟩
    cases dv with
    | non => exact .base .non
    | bl b => exact .base (.bl b)
    | int i => exact .base (.int i)
    | str x => exact .base (.str x)
    | lst h1 _ _ => exact .base (.lst h1)
    | tup h1 _ _ => exact .base (.tup h1)
    | ktp h1 _ =>
      rcases h1 (fun _ => none) with (z | ⟨_, z⟩) | ⟨o, its, n, z1, z2, _⟩
      · cases z
      · cases z
      · exact .kTuple z1 z2
end
end DL
set_option Elab.async false
set_option linter.all false
set_option maxRecDepth 100000
set_option maxHeartbeats 2000000
namespace DL
open PySem L2

/-! ### texts -/
def rSplit : V → List V → Hp → VK → Prop := fun x xs H Q => ∃ a b, x = .str a ∧ xs = [.str b] ∧ (b.length == 0) = false ∧ a.length + 2 ≤ sizeLine ∧ rNewStrs (Txt.split a b) H Q
theorem mSplit {X : Cx} : MtR X "str.split" rSplit := mt_split
def rJoin (K : PySem.W.Frag) : V → List V → Hp → VK → Prop := fun x xs H Q => ∃ a p, ∃ ys : List Str, x = .str a ∧ xs = [.ref p] ∧ (SqL K H p (ys.map V.str) ∨ SqT K H p (ys.map V.str)) ∧ (ys.map (·.length)).sum + ys.length * a.length ≤ 16777216 ∧ Q (.str (Txt.join a ys)) H
theorem mJoin {X : Cx} : MtR X "str.join" (rJoin X.K) := mt_join
section
variable (M : Md) (K : PySem.W.Frag)
def MD (r : V → List V → Hp → VK → Prop) (x : PyData) (ys : List PyData) (Φ : PyData → Prop) : Prop := ∀ (vx : V) (vs : List V) (H : Hp), Dt K M.vol H vx x → DtAll K M.vol H vs ys → M.inv H → ∀ Q : VK, (∀ v H' d, M.R H H' → Dt K M.vol H' v d → Φ d → Q v H') → r vx vs H Q
end
section
variable {M : Md} {K : PySem.W.Frag} {Φ : PyData → Prop} {ρ : Rho} {to te : TE}
theorem ed_m1 {r : V → List V → Hp → VK → Prop} (h : EvD M K to ρ fun x => ∃ z, x = .str z ∧ EvD M K te ρ fun y => MD M K r (.str z) [y] Φ) : EvD M K (tM1 r to te) ρ Φ := fun σ H e i Q k =>
  h σ H e i _ fun vx H1 x r1 dx hx => by
    obtain ⟨z, rfl, h2⟩ := hx
    cases dx
    exact ⟨⟨z, rfl⟩, h2 σ H1 (e.on r1) (M.invR i r1) _ fun vy H2 y r2 dy hy => hy _ _ H2 (.str z) (.cons dy .nil) (M.invR i (M.trans r1 r2)) Q fun v H3 d r3 dv p => k v H3 d (M.trans (M.trans r1 r2) r3) dv p⟩
theorem md_split {a b : Str} (hb : (b.length == 0) = false) (ha : a.length ≤ 10000000) (q : Φ (.list ((Txt.split a b).map PyData.str))) : MD M K rSplit (.str a) [.str b] Φ := fun vx vs H dx dv i Q k => by
  cases dx
  cases dv with
  | cons d1 d2 =>
    cases d2; cases d1
    exact ⟨a, b, rfl, rfl, hb, Nat.le_trans (Nat.add_le_add_right ha 2) (by decide), fun p hp => k _ _ _ (M.new hp) (.lst upd_same (M.fresh i hp) (.strs _)) q⟩
theorem md_joinL {a : Str} {ys : List Str} (h : (ys.map (·.length)).sum + ys.length * a.length ≤ 16777216) (q : Φ (.str (Txt.join a ys))) : MD M K (rJoin K) (.str a) [.list (ys.map PyData.str)] Φ := fun vx vs H dx dv i Q k => by
  cases dx
  cases dv with
  | cons d1 d2 =>
    cases d2
    cases d1 with
    | lst hx nx ax =>
      have e := ax.of_strs
      subst e
      exact ⟨a, _, ys, rfl, rfl, .inl (SqL.of hx), h, k _ H _ (M.refl H) (.str _) q⟩
theorem md_joinT {a : Str} {ys : List Str} (h : (ys.map (·.length)).sum + ys.length * a.length ≤ 16777216) (q : Φ (.str (Txt.join a ys))) : MD M K (rJoin K) (.str a) [.tuple (ys.map PyData.str)] Φ := fun vx vs H dx dv i Q k => by
  cases dx
  cases dv with
  | cons d1 d2 =>
    cases d2
    obtain ⟨b, as, ea, ha, aa⟩ := d1.tupE
    subst ea
    have e := aa.of_strs
    subst e
    exact ⟨a, _, ys, rfl, rfl, .inr ha, h, k _ H _ (M.refl H) (.str _) q⟩
end

/-! ### statements -/
structure EndD where
  nx : Rho → Prop
  rt : PyData → Prop := fun _ => False
  bk : Rho → Prop := fun _ => False
  ct : Rho → Prop := fun _ => False
  rz : Int → Prop := fun _ => False
/-- what is wanted behind: Ds over the heap, D over data; Ez: the wish at an InvalidText whose dict is at d -/
structure Post (M : Md) (K : PySem.W.Frag) (Ez : Addr → Hp → Prop) (Ds : Ends) (D : EndD) (H : Hp) : Prop where
  nx : ∀ σ' H' ρ', M.R H H' → Env K M.vol H' σ' ρ' → D.nx ρ' → Ds.nx σ' H'
  rt : ∀ v H' d, M.R H H' → Dt K M.vol H' v d → D.rt d → Ds.rt v H'
  bk : ∀ σ' H' ρ', M.R H H' → Env K M.vol H' σ' ρ' → D.bk ρ' → Ds.bk σ' H'
  ct : ∀ σ' H' ρ', M.R H H' → Env K M.vol H' σ' ρ' → D.ct ρ' → Ds.ct σ' H'
  rz : ∀ d H' n, M.R H H' → H d = none → H' d = some (.xd [(("line" : Str), .int n)]) → D.rz n → Ez d H'
theorem back_none {M : Md} {H H1 : Hp} {d : Addr} (i : M.inv H) (r : M.R H H1) (h : H1 d = none) : H d = none := by
  cases q : H d with
  | none => rfl
  | some o =>
    by_cases v : M.vol d
    · exact absurd h (M.volN (M.invR i r) v)
    · rw [M.keep r v q] at h; cases h
section
variable {M : Md} {K : PySem.W.Frag} {Ez : Addr → Hp → Prop} {Ds : Ends} {D D' : EndD} {H H1 : Hp}
theorem Post.on (i : M.inv H) (r : M.R H H1) (p : Post M K Ez Ds D H) : Post M K Ez Ds D H1 :=
  ⟨fun σ' H' ρ' r2 => p.nx σ' H' ρ' (M.trans r r2), fun v H' d r2 => p.rt v H' d (M.trans r r2), fun σ' H' ρ' r2 => p.bk σ' H' ρ' (M.trans r r2), fun σ' H' ρ' r2 => p.ct σ' H' ρ' (M.trans r r2),
   fun d H' n r2 h0 => p.rz d H' n (M.trans r r2) (back_none i r h0)⟩
end
theorem Env.setD {K : PySem.W.Frag} {vol : Addr → Prop} {H : Hp} {σ : St} {ρ : Rho} {v : V} {d : PyData} (e : Env K vol H σ ρ) (h : Dt K vol H v d) (j : Nat) : Env K vol H (σ.set j (some v)) (ρ.set j (.dat d)) :=
  Env.set (o := some v) (e := .dat d) h j e
def StD (M : Md) (K : PySem.W.Frag) (Ez : Addr → Hp → Prop) (t : TS) (ρ : Rho) (D : EndD) : Prop := ∀ (Ds : Ends) (σ : St) (H : Hp), Env K M.vol H σ ρ → M.inv H → Post M K Ez Ds D H → t Ds σ H
section
variable {M : Md} {K : PySem.W.Frag} {Ez : Addr → Hp → Prop} {ρ : Rho} {t u : TS} {te : TE} {tt : TT} {D : EndD}
theorem sd_seq (h : StD M K Ez t ρ { D with nx := fun ρ' => StD M K Ez u ρ' D }) : StD M K Ez (tSeq t u) ρ D := fun Ds σ H e i p =>
  h { Ds with nx := u Ds } σ H e i ⟨fun σ' H' ρ' r e' q => q Ds σ' H' e' (M.invR i r) (p.on i r), p.rt, p.bk, p.ct, p.rz⟩
theorem sd_next (q : D.nx ρ) : StD M K Ez tNext ρ D := fun Ds σ H e i p => p.nx σ H ρ (M.refl H) e q
theorem sd_brk (q : D.bk ρ) : StD M K Ez tBreak ρ D := fun Ds σ H e i p => p.bk σ H ρ (M.refl H) e q
theorem sd_ct (q : D.ct ρ) : StD M K Ez tCont ρ D := fun Ds σ H e i p => p.ct σ H ρ (M.refl H) e q
theorem sd_set {j : Nat} (h : EvD M K te ρ fun d => D.nx (ρ.set j (.dat d))) : StD M K Ez (tAsg te (gName j)) ρ D := fun Ds σ H e i p =>
  h σ H e i _ fun v H1 d r dv q => p.nx _ H1 _ r ((e.on r).setD dv j) q
theorem sd_asg {g : TG} (h : EvD M K te ρ fun d => GD M K g d ρ D.nx) : StD M K Ez (tAsg te g) ρ D := fun Ds σ H e i p =>
  h σ H e i _ fun v H1 d r dv q => q v σ H1 (e.on r) dv (M.invR i r) _ fun σ' H' ρ' r2 e2 n => p.nx σ' H' ρ' (M.trans r r2) e2 n
theorem sd_ret (h : EvD M K te ρ D.rt) : StD M K Ez (tRet te) ρ D := fun Ds σ H e i p => h σ H e i _ fun v H1 d r dv q => p.rt v H1 d r dv q
theorem sd_drop (h : EvD M K te ρ fun _ => D.nx ρ) : StD M K Ez (tDrop te) ρ D := fun Ds σ H e i p => h σ H e i _ fun v H1 d r dv q => p.nx σ H1 ρ r (e.on r) q
theorem sd_if (h : EvT M K tt ρ fun b => (b = true → StD M K Ez t ρ D) ∧ (b = false → StD M K Ez u ρ D)) : StD M K Ez (tIfS tt t u) ρ D := fun Ds σ H e i p =>
  h σ H e i _ fun b H1 r hb => by
    cases b with
    | true => exact hb.1 rfl Ds σ H1 (e.on r) (M.invR i r) (p.on i r)
    | false => exact hb.2 rfl Ds σ H1 (e.on r) (M.invR i r) (p.on i r)
theorem sd_par {a b : Nat} {ta : TA} (h : EvA M K ta ρ fun ds => ∃ x y, ds = [x, y] ∧ D.nx ((ρ.set a (.dat x)).set b (.dat y))) : StD M K Ez (tPar a b ta) ρ D := fun Ds σ H e i p =>
  h σ H e i _ fun vs H1 ds r dv q => by
    obtain ⟨x, y, rfl, n⟩ := q
    cases dv with
    | cons d1 d2 =>
      cases d2 with
      | cons d2 d3 =>
        cases d3
        exact ⟨_, _, rfl, p.nx _ H1 _ r (((e.on r).setD d1 a).setD d2 b) n⟩
theorem sd_par3 {a b c : Nat} {ta : TA} (h : EvA M K ta ρ fun ds => ∃ x y z, ds = [x, y, z] ∧ D.nx (((ρ.set a (.dat x)).set b (.dat y)).set c (.dat z))) : StD M K Ez (tPar3 a b c ta) ρ D := fun Ds σ H e i p =>
  h σ H e i _ fun vs H1 ds r dv q => by
    obtain ⟨x, y, z, rfl, n⟩ := q
    cases dv with
    | cons d1 d2 =>
      cases d2 with
      | cons d2 d3 =>
        cases d3 with
        | cons d3 d4 =>
          cases d4
          exact ⟨_, _, _, rfl, p.nx _ H1 _ r ((((e.on r).setD d1 a).setD d2 b).setD d3 c) n⟩
theorem gd_name {j : Nat} {d : PyData} {Φ : Rho → Prop} (q : Φ (ρ.set j (.dat d))) : GD M K (gName j) d ρ Φ := fun v σ H e dv i Q k => k _ H _ (M.refl H) (e.setD dv j) q
theorem gd_tup {n : Nat} {g : TGs} {ds : List PyData} {Φ : Rho → Prop} (hn : ds.length = n) (h : GsD M K g ds ρ Φ) : GD M K (gTup K n g) (.tuple ds) ρ Φ := fun v σ H e dv i Q k => by
  obtain ⟨a, as, ea, ha, aa⟩ := dv.tupE
  exact ⟨a, as, ea, ha, by rw [aa.length, hn], h as σ H e aa i Q k⟩
theorem gsd_nil {Φ : Rho → Prop} (q : Φ ρ) : GsD M K gNil [] ρ Φ := fun vs σ H e dv i Q k => by
  cases dv
  exact ⟨rfl, k σ H ρ (M.refl H) e q⟩
theorem gsd_cons {g : TG} {gs : TGs} {d : PyData} {ds : List PyData} {Φ : Rho → Prop} (h : GD M K g d ρ fun ρ' => GsD M K gs ds ρ' Φ) : GsD M K (gCons g gs) (d :: ds) ρ Φ := fun vs σ H e dv i Q k => by
  cases dv with
  | cons d1 d2 =>
    exact ⟨_, _, rfl, h _ σ H e d1 i _ fun σ' H' ρ' r e' q => q _ σ' H' e' (d2.on r) (M.invR i r) Q fun σ2 H2 ρ2 r2 e2 p => k σ2 H2 ρ2 (M.trans r r2) e2 p⟩

/-! ### loops -/
/-- for x in xs (a list), the target of any form -/
theorem sd_forL {g : TG} {tl : TE} {tb : TS} (h : EvD M K tl ρ fun d => ∃ ds, d = .list ds ∧ ∃ Inv : Nat → Rho → Prop, Inv 0 ρ ∧
      (∀ i x ρ', ds[i]? = some x → Inv i ρ' → GD M K g x ρ' fun ρ2 => StD M K Ez tb ρ2 { D with nx := Inv (i + 1), ct := Inv (i + 1), bk := D.nx }) ∧ (∀ ρ', Inv ds.length ρ' → D.nx ρ')) : StD M K Ez (tFor (iList K tl) g tb) ρ D := fun Ds σ H e i p =>
  h σ H e i _ fun v H1 d r dv hd => by
    obtain ⟨ds, rfl, Inv, h0, hs, hn⟩ := hd
    cases dv with
    | @lst a xs _ hx nx ax =>
      refine ⟨a, rfl, ⟨xs, SqL.of hx⟩, ?_⟩
      refine for_list (xs := xs) (fun n σ' H' => M.R H1 H' ∧ ∃ ρ', Env K M.vol H' σ' ρ' ∧ Inv n ρ') ⟨M.refl H1, ρ, e.on r, h0⟩ (fun n σ' H' _ ⟨r2, _⟩ => SqL.of (M.keep r2 nx hx)) (fun n x σ' H' hi ⟨r2, ρ', e2, hI⟩ => ?_) (fun σ' H' ⟨r2, ρ', e2, hI⟩ => ?_)
      · obtain ⟨dx, hdx, dtx⟩ := ax.get hi
        refine hs n dx ρ' hdx hI x σ' H' e2 (dtx.on r2) (M.invR i (M.trans r r2)) _ fun σ3 H3 ρ3 r3 e3 st => ?_
        have r13 := M.trans r2 r3
        refine st _ σ3 H3 e3 (M.invR i (M.trans r r13)) ⟨fun σ4 H4 ρ4 r4 e4 q => ⟨M.trans r13 r4, ρ4, e4, q⟩, fun v H4 d r4 dv q => p.rt v H4 d (M.trans (M.trans r r13) r4) dv q, fun σ4 H4 ρ4 r4 e4 q => p.nx σ4 H4 ρ4 (M.trans (M.trans r r13) r4) e4 q,
          fun σ4 H4 ρ4 r4 e4 q => ⟨M.trans r13 r4, ρ4, e4, q⟩, fun d H4 n r4 h0 => p.rz d H4 n (M.trans (M.trans r r13) r4) (back_none i (M.trans r r13) h0)⟩
      · rw [ax.length] at hI
        exact p.nx σ' H' ρ' (M.trans r r2) e2 (hn ρ' hI)
theorem sd_forT {g : TG} {tl : TE} {tb : TS} (h : EvD M K tl ρ fun d => ∃ ds, d = .tuple ds ∧ ∃ Inv : Nat → Rho → Prop, Inv 0 ρ ∧
      (∀ i x ρ', ds[i]? = some x → Inv i ρ' → GD M K g x ρ' fun ρ2 => StD M K Ez tb ρ2 { D with nx := Inv (i + 1), ct := Inv (i + 1), bk := D.nx }) ∧ (∀ ρ', Inv ds.length ρ' → D.nx ρ')) : StD M K Ez (tFor (iTup K tl) g tb) ρ D := fun Ds σ H e i p =>
  h σ H e i _ fun v H1 d r dv hd => by
    obtain ⟨ds, rfl, Inv, h0, hs, hn⟩ := hd
    have keepT : ∃ a xs, v = .ref a ∧ DtAll K M.vol H1 xs ds ∧ ∀ H', M.R H1 H' → SqT K H' a xs := by
      cases dv with
      | tup h1 n h2 => exact ⟨_, _, rfl, h2, fun H' r2 => SqT.of (M.keep r2 n h1)⟩
      | ktp h1 h2 => exact ⟨_, _, rfl, h2, fun H' _ => h1 H'⟩
    obtain ⟨a, xs, rfl, ax, hk⟩ := keepT
    refine ⟨a, rfl, ⟨xs, hk _ (M.refl _)⟩, ?_⟩
    refine for_tup (xs := xs) (fun n σ' H' => M.R H1 H' ∧ ∃ ρ', Env K M.vol H' σ' ρ' ∧ Inv n ρ') ⟨M.refl H1, ρ, e.on r, h0⟩ (fun n σ' H' _ ⟨r2, _⟩ => hk _ r2) (fun n x σ' H' hi ⟨r2, ρ', e2, hI⟩ => ?_) (fun σ' H' ⟨r2, ρ', e2, hI⟩ => ?_)
    · obtain ⟨dx, hdx, dtx⟩ := ax.get hi
      refine hs n dx ρ' hdx hI x σ' H' e2 (dtx.on r2) (M.invR i (M.trans r r2)) _ fun σ3 H3 ρ3 r3 e3 st => ?_
      have r13 := M.trans r2 r3
      refine st _ σ3 H3 e3 (M.invR i (M.trans r r13)) ⟨fun σ4 H4 ρ4 r4 e4 q => ⟨M.trans r13 r4, ρ4, e4, q⟩, fun v H4 d r4 dv q => p.rt v H4 d (M.trans (M.trans r r13) r4) dv q, fun σ4 H4 ρ4 r4 e4 q => p.nx σ4 H4 ρ4 (M.trans (M.trans r r13) r4) e4 q,
        fun σ4 H4 ρ4 r4 e4 q => ⟨M.trans r13 r4, ρ4, e4, q⟩, fun d H4 n r4 h0 => p.rz d H4 n (M.trans (M.trans r r13) r4) (back_none i (M.trans r r13) h0)⟩
    · rw [ax.length] at hI
      exact p.nx σ' H' ρ' (M.trans r r2) e2 (hn ρ' hI)
/-- for k in range(n) -/
theorem sd_forR {j : Nat} {ta : TA} {tb : TS} (h : EvA M K ta ρ fun ds => ∃ n : Int, ds = [.int n] ∧ (-1000000000 ≤ n ∧ n ≤ 1000000000) ∧ ∃ Inv : Nat → Rho → Prop, Inv 0 ρ ∧
      (∀ (i : Nat) ρ', (i : Int) < n → Inv i ρ' → StD M K Ez tb (ρ'.set j (.dat (.int i))) { D with nx := Inv (i + 1), ct := Inv (i + 1), bk := D.nx }) ∧ (∀ ρ', Inv n.toNat ρ' → D.nx ρ')) : StD M K Ez (tFor (iRng1 ta) (gName j) tb) ρ D := fun Ds σ H e i p =>
  h σ H e i _ fun vs H1 ds r dv hd => by
    obtain ⟨n, rfl, hm, Inv, h0, hs, hn⟩ := hd
    cases dv with
    | cons d1 d2 =>
      cases d2; cases d1
      · refine ⟨n, rfl, by omega, by omega, ?_⟩
        refine for_range (lo := 0) (n := n.toNat) (fun k σ' H' => M.R H1 H' ∧ ∃ ρ', Env K M.vol H' σ' ρ' ∧ Inv k ρ') ⟨M.refl H1, ρ, e.on r, h0⟩ (fun k σ' H' hi ⟨r2, ρ', e2, hI⟩ => ?_) (fun σ' H' ⟨r2, ρ', e2, hI⟩ => p.nx σ' H' ρ' (M.trans r r2) e2 (hn ρ' hI))
        show tb _ (σ'.set j (some (.int (0 + (k : Int))))) H'
        rw [Int.zero_add]
        refine hs k ρ' (by omega) hI _ _ H' (e2.setD (.int (k : Int)) j) (M.invR i (M.trans r r2)) ⟨fun σ4 H4 ρ4 r4 e4 q => ⟨M.trans r2 r4, ρ4, e4, q⟩, fun v H4 d r4 dv q => p.rt v H4 d (M.trans (M.trans r r2) r4) dv q, fun σ4 H4 ρ4 r4 e4 q => p.nx σ4 H4 ρ4 (M.trans (M.trans r r2) r4) e4 q,
          fun σ4 H4 ρ4 r4 e4 q => ⟨M.trans r2 r4, ρ4, e4, q⟩, fun d H4 n r4 h0 => p.rz d H4 n (M.trans (M.trans r r2) r4) (back_none i (M.trans r r2) h0)⟩
end
end DL
set_option Elab.async false
set_option linter.all false
set_option maxRecDepth 100000
set_option maxHeartbeats 2000000
namespace DL
open PySem L2
section
variable {M : Md} {K : PySem.W.Frag} {Ez : Addr → Hp → Prop} {ρ : Rho} {t u : TS} {te : TE} {tt : TT} {D : EndD} {Φ : PyData → Prop}
/-- for i, x in enumerate(xs) -/
theorem sd_forE {g : TG} {ta : TA} {tb : TS} (h : EvA M K ta ρ fun d => ∃ ds, d = [.list ds] ∧ ∃ Inv : Nat → Rho → Prop, Inv 0 ρ ∧
      (∀ (i : Nat) x ρ', ds[i]? = some x → Inv i ρ' → GD M K g (.tuple [.int i, x]) ρ' fun ρ2 => StD M K Ez tb ρ2 { D with nx := Inv (i + 1), ct := Inv (i + 1), bk := D.nx }) ∧ (∀ ρ', Inv ds.length ρ' → D.nx ρ')) : StD M K Ez (tFor (iEnum K ta) g tb) ρ D := fun Ds σ H e i p =>
  h σ H e i _ fun vs H1 dd r dv hd => by
    obtain ⟨ds, rfl, Inv, h0, hs, hn⟩ := hd
    cases dv with
    | cons d1 d2 =>
      cases d2
      cases d1 with
      | @lst a xs _ hx nx ax =>
        refine ⟨a, xs, rfl, SqL.of hx, ?_⟩
        refine ⟨fun n m σ' H' => m = xs.length - n ∧ n ≤ xs.length ∧ M.R H1 H' ∧ ∃ ρ', Env K M.vol H' σ' ρ' ∧ Inv n ρ', ⟨_, rfl, Nat.zero_le _, M.refl H1, ρ, e.on r, h0⟩, ?_⟩
        rintro n m σ' H' ⟨rfl, hle, r2, ρ', e2, hI⟩
        have hq : SqL K H' a xs := SqL.of (M.keep r2 nx hx)
        by_cases hlt : n < xs.length
        · have hi : xs[n]? = some xs[n] := by simp [hlt]
          refine .inr ⟨⟨xs, xs[n], hq, hi⟩, fun σ3 H3 => M.R H1 H3 ∧ ∃ ρ', Env K M.vol H3 σ3 ρ' ∧ Inv (n + 1) ρ', fun σ3 H3 ⟨r3, ρ3, e3, h3⟩ => ⟨xs.length - (n + 1), by omega, rfl, hlt, r3, ρ3, e3, h3⟩, fun v H3 y => ?_⟩
          obtain ⟨T, x, rfl, hT, rfl, hy⟩ := y
          have hx' := hy xs hq
          obtain ⟨dx, hdx, dtx⟩ := ax.get hx'
          have r3 : M.R H' (upd H' T (.tup [.int (n : Nat), x])) := M.new hT
          have r13 := M.trans r2 r3
          have i' := M.invR i (M.trans r r2)
          refine hs n dx ρ' hdx hI (.ref T) σ' _ (e2.on r3) (.tup upd_same (M.fresh i' hT) (.cons (.int _) (.cons (dtx.on r13) .nil))) (M.invR i' r3) _ fun σ4 H4 ρ4 r4 e4 st => ?_
          have r14 := M.trans r13 r4
          exact st _ σ4 H4 e4 (M.invR i (M.trans r r14)) ⟨fun σ5 H5 ρ5 r5 e5 q => ⟨M.trans r14 r5, ρ5, e5, q⟩, fun v H5 d r5 dv q => p.rt v H5 d (M.trans (M.trans r r14) r5) dv q, fun σ5 H5 ρ5 r5 e5 q => p.nx σ5 H5 ρ5 (M.trans (M.trans r r14) r5) e5 q,
            fun σ5 H5 ρ5 r5 e5 q => ⟨M.trans r14 r5, ρ5, e5, q⟩, fun d H5 n r5 h0 => p.rz d H5 n (M.trans (M.trans r r14) r5) (back_none i (M.trans r r14) h0)⟩
        · have en : n = xs.length := by omega
          subst en
          refine .inl ⟨⟨xs, hq, Nat.le_refl _⟩, ?_⟩
          rw [ax.length] at hI
          exact p.nx σ' H' ρ' (M.trans r r2) e2 (hn ρ' hI)
theorem sd_while {tb : TS} (Inv : Rho → Prop) (μ : Rho → Nat) (h0 : Inv ρ)
    (hs : ∀ ρ', Inv ρ' → EvT M K tt ρ' fun b => (b = true → StD M K Ez tb ρ' { D with nx := fun ρ2 => Inv ρ2 ∧ μ ρ2 < μ ρ', ct := fun ρ2 => Inv ρ2 ∧ μ ρ2 < μ ρ', bk := D.nx }) ∧ (b = false → D.nx ρ')) : StD M K Ez (tWhile tt tb) ρ D := fun Ds σ H e i p => by
  refine ⟨fun m σ' H' => M.R H H' ∧ ∃ ρ', Env K M.vol H' σ' ρ' ∧ Inv ρ' ∧ μ ρ' = m, ⟨μ ρ, M.refl H, ρ, e, h0, rfl⟩, ?_⟩
  rintro m σ' H' ⟨r, ρ', e2, hI, rfl⟩
  refine hs ρ' hI σ' H' e2 (M.invR i r) _ fun b H1 r1 hb => ?_
  have r01 := M.trans r r1
  cases b with
  | true =>
    rw [if_pos rfl]
    refine ⟨fun σ2 H2 => M.R H H2 ∧ ∃ ρ2, Env K M.vol H2 σ2 ρ2 ∧ Inv ρ2 ∧ μ ρ2 < μ ρ', fun σ2 H2 ⟨r2, ρ2, e3, h3, hl⟩ => ⟨μ ρ2, hl, r2, ρ2, e3, h3, rfl⟩, ?_⟩
    exact hb.1 rfl _ σ' H1 (e2.on r1) (M.invR i r01) ⟨fun σ5 H5 ρ5 r5 e5 q => ⟨M.trans r01 r5, ρ5, e5, q.1, q.2⟩, fun v H5 d r5 dv q => p.rt v H5 d (M.trans r01 r5) dv q, fun σ5 H5 ρ5 r5 e5 q => p.nx σ5 H5 ρ5 (M.trans r01 r5) e5 q,
      fun σ5 H5 ρ5 r5 e5 q => ⟨M.trans r01 r5, ρ5, e5, q.1, q.2⟩, fun d H5 n r5 h0 => p.rz d H5 n (M.trans r01 r5) (back_none i r01 h0)⟩
  | false =>
    rw [if_neg Bool.false_ne_true]
    exact p.nx σ' H1 ρ' r01 (e2.on r1) (hb.2 rfl)
end

/-! ### comprehensions -/
section
variable {M : Md} {K : PySem.W.Frag} {ρ : Rho} {tl te : TE} {tt : TT} {Φ : PyData → Prop}
theorem et_yes {Ψ : Bool → Prop} (q : Ψ true) : EvT M K tYes ρ Ψ := fun σ H e i Q k => k true H (M.refl H) q
theorem take_step {p : PyData → Bool} {f : PyData → PyData} {ds : List PyData} {n : Nat} {x : PyData} (h : ds[n]? = some x) :
    ((ds.take (n + 1)).filter p).map f = ((ds.take n).filter p).map f ++ (if p x = true then [f x] else []) := by
  rw [List.take_succ, h, List.filter_append, List.map_append]
  congr 1
  show List.map f (List.filter p [x]) = _
  rw [List.filter_cons]
  split
  · rfl
  · rfl
/-- a comprehension's turns, whatever it walks (target told by St2: the slots behind the store) -/
theorem lc_turns {g : TG} {vs : List Nat} {σ : St} {H1 : Hp} {Dl : Addr} {xs : List V} {ds : List PyData} (i1 : M.inv H1) (hD : H1 Dl = none) (e : Env K M.vol H1 σ ρ) (ax : DtAll K M.vol H1 xs ds) (hz : ds.length ≤ 1000000)
    (p : PyData → Bool) (f : PyData → PyData) (ρ2 : PyData → Rho)
    (hg : ∀ x ∈ ds, ∀ (M' : Md) (v : V) (H : Hp), Env K M'.vol H σ ρ → Dt K M'.vol H v x → ∀ Q : St → Hp → Prop, (∀ σ2, wipe σ2 vs = wipe σ vs → Env K M'.vol H σ2 (ρ2 x) → Q σ2 H) → g v (wipe σ vs) H Q)
    (ht : ∀ x ∈ ds, ∀ M' : Md, EvT M' K tt (ρ2 x) fun b => b = p x ∧ (p x = true → EvD M' K te (ρ2 x) fun d => d = f x))
    {n : Nat} {x : V} {H : Hp} (hi : xs[n]? = some x) (hp : M.R H1 H ∧ ∃ acc, H Dl = some (.lst acc) ∧ DtAll K (M.add Dl).vol H acc (((ds.take n).filter p).map f)) :
    g x (wipe σ vs) H fun σ2 H2 => wipe σ2 vs = wipe σ vs ∧ tt σ2 H2 fun b H3 =>
      if b = true then te σ2 H3 fun y H4 => ∃ acc, H4 Dl = some (.lst acc) ∧ acc.length < sizeLine ∧ (M.R H1 (upd H4 Dl (.lst (acc ++ [y]))) ∧ ∃ acc', upd H4 Dl (.lst (acc ++ [y])) Dl = some (.lst acc') ∧ DtAll K (M.add Dl).vol (upd H4 Dl (.lst (acc ++ [y]))) acc' (((ds.take (n + 1)).filter p).map f))
      else M.R H1 H3 ∧ ∃ acc, H3 Dl = some (.lst acc) ∧ DtAll K (M.add Dl).vol H3 acc (((ds.take (n + 1)).filter p).map f) := by
  obtain ⟨r, acc, hacc, dacc⟩ := hp
  obtain ⟨dx, hdx, dtx⟩ := ax.get hi
  have hm : dx ∈ ds := List.mem_of_getElem? hdx
  have mv : ∀ a o, ¬ M.vol a → H1 a = some o → H a = some o ∧ ¬ (M.add Dl).vol a := fun a o n h => ⟨M.keep r n h, fun z => by
    rcases z with z | z
    · exact n z
    · rw [z, hD] at h; cases h⟩
  have i' : (M.add Dl).inv H := ⟨M.invR i1 r, by rw [hacc]; intro z; cases z⟩
  refine hg dx hm (M.add Dl) x H (e.move mv) (Dt.move mv _ _ dtx) _ fun σ2 hw e2 => ⟨hw, ?_⟩
  refine ht dx hm (M.add Dl) σ2 H e2 i' _ fun b H3 r3 hb => ?_
  obtain ⟨rfl, hb⟩ := hb
  have hacc3 := r3.2 _ hacc
  cases hpx : p dx with
  | false =>
    rw [if_neg Bool.false_ne_true]
    refine ⟨M.trans r r3.1, acc, hacc3, ?_⟩
    rw [take_step hdx, hpx, if_neg Bool.false_ne_true, List.append_nil]
    exact dacc.on r3
  | true =>
    rw [if_pos rfl]
    refine hb hpx σ2 H3 (e2.on r3) ((M.add Dl).invR i' r3) _ fun y H4 d r4 dy hd => ?_
    subst hd
    have r34 := (M.add Dl).trans r3 r4
    refine ⟨acc, r4.2 _ hacc3, ?_, M.grow i1 (M.trans r r34.1) hD, acc ++ [y], upd_same, ?_⟩
    · rw [dacc.length, List.length_map]
      have h1 := List.length_filter_le p (ds.take n)
      rw [List.length_take] at h1
      have : (List.filter p (List.take n ds)).length ≤ 1000000 := by omega
      exact Nat.lt_of_le_of_lt this (by decide)
    · rw [take_step hdx, hpx, if_pos rfl]
      have mv2 : ∀ a o, ¬ (M.add Dl).vol a → H4 a = some o → (upd H4 Dl (.lst (acc ++ [y]))) a = some o ∧ ¬ (M.add Dl).vol a := fun a o n h => ⟨by rw [upd_ne (fun z => n (.inr z))]; exact h, n⟩
      exact (DtAll.move mv2 _ _ (dacc.on r34)).append (.cons (Dt.move mv2 _ _ dy) .nil)
theorem lc_done {Dl : Addr} {H1 H : Hp} {ds : List PyData} {ws : List PyData} (i1 : M.inv H1) (hD : H1 Dl = none) (hp : M.R H1 H ∧ ∃ acc, H Dl = some (.lst acc) ∧ DtAll K (M.add Dl).vol H acc ws) : Dt K M.vol H (.ref Dl) (.list ws) := by
  obtain ⟨r, acc, hacc, dacc⟩ := hp
  exact .lst hacc (M.fresh i1 hD) (DtAll.move (fun a o n h => ⟨h, fun z => n (.inl z)⟩) _ _ dacc)
/-- [e for x in xs if t] over a list -/
theorem ed_lcL {g : TG} {vs : List Nat} (ρ2 : PyData → Rho) (hg : ∀ (σ : St) (x : PyData) (M' : Md) (v : V) (H : Hp), Env K M'.vol H σ ρ → Dt K M'.vol H v x → ∀ Q : St → Hp → Prop, (∀ σ2, wipe σ2 vs = wipe σ vs → Env K M'.vol H σ2 (ρ2 x) → Q σ2 H) → g v (wipe σ vs) H Q)
    (h : EvD M K tl ρ fun d => ∃ ds, d = .list ds ∧ ds.length ≤ 1000000 ∧ ∃ (p : PyData → Bool) (f : PyData → PyData),
      (∀ x ∈ ds, ∀ M' : Md, EvT M' K tt (ρ2 x) fun b => b = p x ∧ (p x = true → EvD M' K te (ρ2 x) fun d => d = f x)) ∧ Φ (.list ((ds.filter p).map f))) :
    EvD M K (tLc (iList K tl) g tt te vs) ρ Φ := fun σ H e i Q k => h σ H e i _ fun v H1 d r dv hd => by
  obtain ⟨ds, rfl, hz, p, f, ht, q⟩ := hd
  cases dv with
  | @lst a xs _ hx nx ax =>
    refine ⟨a, rfl, ⟨xs, SqL.of hx⟩, fun Dl hD => ?_⟩
    refine lc_list (K := K) (a := a) (xs := xs) (fun n H' => M.R H1 H' ∧ ∃ acc, H' Dl = some (.lst acc) ∧ DtAll K (M.add Dl).vol H' acc (((ds.take n).filter p).map f)) ⟨M.new hD, [], upd_same, .nil⟩ (fun n H' _ hp => SqL.of (M.keep hp.1 nx hx))
      (fun n x H' hi hp => ?_) (fun H' hp => ?_)
    · exact lc_turns (M.invR i r) hD (e.on r) ax hz p f ρ2 (fun x _ => hg σ x) ht hi hp
    · rw [ax.length, List.take_length] at hp
      exact k _ H' _ (M.trans r hp.1) (lc_done (M.invR i r) hD hp (ds := ds)) q
/-- .. over a tuple -/
theorem ed_lcT {g : TG} {vs : List Nat} (ρ2 : PyData → Rho) (hg : ∀ (σ : St) (x : PyData) (M' : Md) (v : V) (H : Hp), Env K M'.vol H σ ρ → Dt K M'.vol H v x → ∀ Q : St → Hp → Prop, (∀ σ2, wipe σ2 vs = wipe σ vs → Env K M'.vol H σ2 (ρ2 x) → Q σ2 H) → g v (wipe σ vs) H Q)
    (h : EvD M K tl ρ fun d => ∃ ds, d = .tuple ds ∧ ds.length ≤ 1000000 ∧ ∃ (p : PyData → Bool) (f : PyData → PyData),
      (∀ x ∈ ds, ∀ M' : Md, EvT M' K tt (ρ2 x) fun b => b = p x ∧ (p x = true → EvD M' K te (ρ2 x) fun d => d = f x)) ∧ Φ (.list ((ds.filter p).map f))) :
    EvD M K (tLc (iTup K tl) g tt te vs) ρ Φ := fun σ H e i Q k => h σ H e i _ fun v H1 d r dv hd => by
  obtain ⟨ds, rfl, hz, p, f, ht, q⟩ := hd
  have keepT : ∃ a xs, v = .ref a ∧ DtAll K M.vol H1 xs ds ∧ ∀ H', M.R H1 H' → SqT K H' a xs := by
    cases dv with
    | tup h1 n h2 => exact ⟨_, _, rfl, h2, fun H' r2 => SqT.of (M.keep r2 n h1)⟩
    | ktp h1 h2 => exact ⟨_, _, rfl, h2, fun H' _ => h1 H'⟩
  obtain ⟨a, xs, rfl, ax, hk⟩ := keepT
  refine ⟨a, rfl, ⟨xs, hk _ (M.refl _)⟩, fun Dl hD => ?_⟩
  refine lc_tup (K := K) (a := a) (xs := xs) (fun n H' => M.R H1 H' ∧ ∃ acc, H' Dl = some (.lst acc) ∧ DtAll K (M.add Dl).vol H' acc (((ds.take n).filter p).map f)) ⟨M.new hD, [], upd_same, .nil⟩ (fun n H' _ hp => hk _ hp.1)
    (fun n x H' hi hp => ?_) (fun H' hp => ?_)
  · exact lc_turns (M.invR i r) hD (e.on r) ax hz p f ρ2 (fun x _ => hg σ x) ht hi hp
  · rw [ax.length, List.take_length] at hp
    exact k _ H' _ (M.trans r hp.1) (lc_done (M.invR i r) hD hp (ds := ds)) q
/-- the target is one name -/
theorem hg_name {j : Nat} (σ : St) (x : PyData) (M' : Md) (v : V) (H : Hp) (e : Env K M'.vol H σ ρ) (dv : Dt K M'.vol H v x) (Q : St → Hp → Prop) (k : ∀ σ2, wipe σ2 [j] = wipe σ [j] → Env K M'.vol H σ2 (ρ.set j (.dat x)) → Q σ2 H) : gName j v (wipe σ [j]) H Q := by
  refine k _ ?_ ?_
  · show ((σ.set j none).set j (some v)).set j none = σ.set j none
    rw [List.set_set, List.set_set]
  · show Env K M'.vol H ((σ.set j none).set j (some v)) _
    rw [List.set_set]
    exact e.setD dv j
end

/-! ### defs -/
section
variable {α : Type}
/-- what a pure def promises: called with data enc x (x in dom) it hands back data that post tells, and leaves all as it was -/
def spP (K : PySem.W.Frag) (enc : α → List PyData) (dom : α → Prop) (post : α → PyData → Prop) : Sp := fun vs H Q _ => ∃ (vol : Addr → Prop) (x : α), (∀ a, vol a → H a ≠ none) ∧ DtAll K vol H vs (enc x) ∧ dom x ∧ ∀ v H' d, Same H H' → Dt K vol H' v d → post x d → Q v H'
/-- a def of the law that draws from the jar, its first argument -/
def spJ (K : PySem.W.Frag) (enc : α → List PyData) (dom : α → Prop) (post : α → PyData → Prop) : Sp := fun vs H Q _ => ∃ (j : Addr) (x : α) (ws : List V), vs = .ref j :: ws ∧ JarAt H j ∧ DtAll K (fun a => a = j) H ws (enc x) ∧ dom x ∧ ∀ v H' d, RJ j H H' → Dt K (fun a => a = j) H' v d → post x d → Q v H'
variable {M : Md} {K : PySem.W.Frag} {ρ : Rho} {ta : TA} {Φ : PyData → Prop} {enc : α → List PyData} {dom : α → Prop} {post : α → PyData → Prop} {E : XK}
theorem ed_callD {dvs : List V} {dds : List PyData} (hd : ∀ vol H, DtAll K vol H dvs dds) (h : EvA M K ta ρ fun ds => ∃ x, ds ++ dds = enc x ∧ dom x ∧ ∀ d, post x d → Φ d) : EvD M K (tCall (spP K enc dom post) dvs E ta) ρ Φ := fun σ H e i Q k =>
  h σ H e i _ fun vs H1 ds r dv hx => by
    obtain ⟨x, hds, hdom, hp⟩ := hx
    refine ⟨M.vol, x, fun a v => M.volN (M.invR i r) v, ?_, hdom, fun v H' d s dv' p => k v H' d (M.trans r (M.same s)) dv' (hp d p)⟩
    rw [← hds]
    exact dv.append (hd _ _)
theorem ed_call (h : EvA M K ta ρ fun ds => ∃ x, ds = enc x ∧ dom x ∧ ∀ d, post x d → Φ d) : EvD M K (tCall (spP K enc dom post) [] E ta) ρ Φ :=
  ed_callD (dds := []) (fun _ _ => .nil) fun σ H e i Q k => h σ H e i Q fun vs H' ds r dv hx => k vs H' ds r dv (by show ∃ x, ds ++ [] = enc x ∧ _; rw [List.append_nil]; exact hx)
theorem ed_callJ {j : Addr} {n : Nat} (hj : ρ[n]? = some (.adr j)) (h : EvA (jarM j) K ta ρ fun ds => ∃ x, ds = enc x ∧ dom x ∧ ∀ d, post x d → Φ d) : EvD (jarM j) K (tCall (spJ K enc dom post) [] E (tCons (tVar n) ta)) ρ Φ := fun σ H e i Q k => by
  refine ⟨.ref j, e.adr hj, ?_⟩
  refine h σ H e i _ fun vs H1 ds r dv hx => ?_
  obtain ⟨x, hds, hdom, hp⟩ := hx
  refine ⟨j, x, vs, by simp, (jarM j).invR i r, ?_, hdom, fun v H' d s dv' p => k v H' d ((jarM j).trans r s) dv' (hp d p)⟩
  rw [← hds]
  exact dv
def rho0 (N : List Str) (ds : List PyData) : Rho := ds.map .dat ++ List.replicate (N.length - ds.length) .no
theorem env_rep {K : PySem.W.Frag} {vol : Addr → Prop} {H : Hp} : ∀ n : Nat, Env K vol H (List.replicate n none) (List.replicate n .no)
  | 0 => .nil
  | n + 1 => .cons trivial (env_rep n)
theorem env_vals {K : PySem.W.Frag} {vol : Addr → Prop} {H : Hp} {σ : St} {ρ : Rho} (h : Env K vol H σ ρ) : ∀ {vs : List V} {ds : List PyData}, DtAll K vol H vs ds → Env K vol H (vs.map some ++ σ) (ds.map .dat ++ ρ)
  | [], _, a => by cases a; exact h
  | v :: vs, _, a => by
    cases a with
    | cons a1 a2 => exact .cons a1 (env_vals h a2)
theorem run_pure {N : List Str} {vs : List V} {H : Hp} {Q : VK} {E : XK} {t : TS} (h : spP K enc dom post vs H Q E) (body : ∀ (M : Md) x, dom x → StD M K (fun _ _ => True) t (rho0 N (enc x)) { nx := fun _ => post x .none, rt := post x }) :
    t { nx := fun _ H' => Q .non H', rt := Q } (L2.start N vs) H := by
  obtain ⟨vol, x, hv, a, hd, q⟩ := h
  refine body (pureM vol) x hd _ _ H ?_ hv ⟨fun σ' H' ρ' r _ z => q .non H' .none r .non z, fun v H' d r dv z => q v H' d r dv z, fun _ _ _ _ _ z => z.elim, fun _ _ _ _ _ z => z.elim, fun _ _ _ _ _ _ _ => trivial⟩
  unfold L2.start rho0
  rw [a.length]
  exact env_vals (env_rep _) a
theorem run_jar {N : List Str} {vs : List V} {H : Hp} {Q : VK} {E : XK} {t : TS} (h : spJ K enc dom post vs H Q E) (body : ∀ (j : Addr) x, dom x → StD (jarM j) K (fun _ _ => True) t (.adr j :: ((enc x).map .dat ++ List.replicate (N.length - 1 - (enc x).length) .no)) { nx := fun _ => post x .none, rt := post x }) :
    t { nx := fun _ H' => Q .non H', rt := Q } (L2.start N vs) H := by
  obtain ⟨j, x, ws, rfl, hj, a, hd, q⟩ := h
  refine body j x hd _ _ H ?_ hj ⟨fun σ' H' ρ' r _ z => q .non H' .none r .non z, fun v H' d r dv z => q v H' d r dv z, fun _ _ _ _ _ z => z.elim, fun _ _ _ _ _ z => z.elim, fun _ _ _ _ _ _ _ => trivial⟩
  unfold L2.start
  have el : N.length - (V.ref j :: ws).length = N.length - 1 - (enc x).length := by
    rw [List.length_cons, a.length]; omega
  rw [el]
  exact .cons rfl (env_vals (env_rep _) a)
end
end DL
namespace DL
open PySem L2
theorem ln0 {P : Prop} (h : P) : ([] : List PyData).length ≤ 100000 ∧ P := ⟨by show 0 ≤ 100000; decide, h⟩
theorem ln1 {x0 : PyData} {P : Prop} (h : P) : [x0].length ≤ 100000 ∧ P := ⟨by show 1 ≤ 100000; decide, h⟩
theorem ln2 {x0 x1 : PyData} {P : Prop} (h : P) : [x0, x1].length ≤ 100000 ∧ P := ⟨by show 2 ≤ 100000; decide, h⟩
theorem ln3 {x0 x1 x2 : PyData} {P : Prop} (h : P) : [x0, x1, x2].length ≤ 100000 ∧ P := ⟨by show 3 ≤ 100000; decide, h⟩
theorem ln4 {x0 x1 x2 x3 : PyData} {P : Prop} (h : P) : [x0, x1, x2, x3].length ≤ 100000 ∧ P := ⟨by show 4 ≤ 100000; decide, h⟩
theorem ln5 {x0 x1 x2 x3 x4 : PyData} {P : Prop} (h : P) : [x0, x1, x2, x3, x4].length ≤ 100000 ∧ P := ⟨by show 5 ≤ 100000; decide, h⟩
theorem ln6 {x0 x1 x2 x3 x4 x5 : PyData} {P : Prop} (h : P) : [x0, x1, x2, x3, x4, x5].length ≤ 100000 ∧ P := ⟨by show 6 ≤ 100000; decide, h⟩
theorem ln7 {x0 x1 x2 x3 x4 x5 x6 : PyData} {P : Prop} (h : P) : [x0, x1, x2, x3, x4, x5, x6].length ≤ 100000 ∧ P := ⟨by show 7 ≤ 100000; decide, h⟩
theorem ln8 {x0 x1 x2 x3 x4 x5 x6 x7 : PyData} {P : Prop} (h : P) : [x0, x1, x2, x3, x4, x5, x6, x7].length ≤ 100000 ∧ P := ⟨by show 8 ≤ 100000; decide, h⟩
theorem ln9 {x0 x1 x2 x3 x4 x5 x6 x7 x8 : PyData} {P : Prop} (h : P) : [x0, x1, x2, x3, x4, x5, x6, x7, x8].length ≤ 100000 ∧ P := ⟨by show 9 ≤ 100000; decide, h⟩
theorem ln10 {x0 x1 x2 x3 x4 x5 x6 x7 x8 x9 : PyData} {P : Prop} (h : P) : [x0, x1, x2, x3, x4, x5, x6, x7, x8, x9].length ≤ 100000 ∧ P := ⟨by show 10 ≤ 100000; decide, h⟩
theorem ln11 {x0 x1 x2 x3 x4 x5 x6 x7 x8 x9 x10 : PyData} {P : Prop} (h : P) : [x0, x1, x2, x3, x4, x5, x6, x7, x8, x9, x10].length ≤ 100000 ∧ P := ⟨by show 11 ≤ 100000; decide, h⟩
theorem ln12 {x0 x1 x2 x3 x4 x5 x6 x7 x8 x9 x10 x11 : PyData} {P : Prop} (h : P) : [x0, x1, x2, x3, x4, x5, x6, x7, x8, x9, x10, x11].length ≤ 100000 ∧ P := ⟨by show 12 ≤ 100000; decide, h⟩
theorem exB {b : Bool} {P : Bool → Prop} (h : P b) : ∃ c, PyData.bool b = PyData.bool c ∧ P c := ⟨b, rfl, h⟩
theorem exI {b : Int} {P : Int → Prop} (h : P b) : ∃ c, PyData.int b = PyData.int c ∧ P c := ⟨b, rfl, h⟩
theorem exS {b : Str} {P : Str → Prop} (h : P b) : ∃ c, PyData.str b = PyData.str c ∧ P c := ⟨b, rfl, h⟩
theorem exL {b : List PyData} {P : List PyData → Prop} (h : P b) : ∃ c, PyData.list b = PyData.list c ∧ P c := ⟨b, rfl, h⟩
theorem exT {b : List PyData} {P : List PyData → Prop} (h : P b) : ∃ c, PyData.tuple b = PyData.tuple c ∧ P c := ⟨b, rfl, h⟩
theorem exLs {b : List PyData} {P : List PyData → Prop} (h : P b) : ∃ c, [PyData.list b] = [PyData.list c] ∧ P c := ⟨b, rfl, h⟩
theorem exIs {b : Int} {P : Int → Prop} (h : P b) : ∃ c, [PyData.int b] = [PyData.int c] ∧ P c := ⟨b, rfl, h⟩
theorem ex2 {a b : PyData} {P : PyData → PyData → Prop} (h : P a b) : ∃ x y, [a, b] = [x, y] ∧ P x y := ⟨a, b, rfl, h⟩
theorem ex3 {a b c : PyData} {P : PyData → PyData → PyData → Prop} (h : P a b c) : ∃ x y z, [a, b, c] = [x, y, z] ∧ P x y z := ⟨a, b, c, rfl, h⟩
theorem ex1 {α : Type} {a : PyData} {P : PyData → Prop} {D : PyData → Prop} (hd : D a) (h : P a) : ∃ x, [a] = [x] ∧ D x ∧ P x := ⟨a, rfl, hd, h⟩
theorem ct {c : Bool} {A B : Prop} (h : c = true) (a : A) : (c = true → A) ∧ (c = false → B) := ⟨fun _ => a, fun z => by rw [h] at z; cases z⟩
theorem cf {c : Bool} {A B : Prop} (h : c = false) (b : B) : (c = true → A) ∧ (c = false → B) := ⟨fun z => (by rw [h] at z; cases z), fun _ => b⟩
theorem cf' {c : Bool} {A B : Prop} (h : c = true) (b : B) : (c = false → A) ∧ (c = true → B) := ⟨fun z => (by rw [h] at z; cases z), fun _ => b⟩
theorem ct' {c : Bool} {A B : Prop} (h : c = false) (a : A) : (c = false → A) ∧ (c = true → B) := ⟨fun _ => a, fun z => by rw [h] at z; cases z⟩
section
variable {M : Md} {K : PySem.W.Frag} {Φ : PyData → Prop}
theorem atI_getD {xs : List PyData} {i : Int} (h0 : 0 ≤ i) (h : i.toNat < xs.length) : atI xs i = some (xs.getD i.toNat .none) := by
  have e : i = ((i.toNat : Nat) : Int) := by omega
  have q : xs[i.toNat]? = some (xs.getD i.toNat .none) := by rw [List.getD_eq_getElem?_getD, List.getElem?_eq_getElem h]; rfl
  have z := atI_nat q
  rw [← e] at z
  exact z
theorem rd_ixTi {xs : List PyData} {i : Int} (h0 : 0 ≤ i) (h : i.toNat < xs.length) (q : Φ (xs.getD i.toNat .none)) : RD M K (rIxTu K) (.tuple xs) (.int i) Φ := rd_ixT (atI_getD h0 h) q
theorem rd_ixLi {xs : List PyData} {i : Int} (h0 : 0 ≤ i) (h : i.toNat < xs.length) (q : Φ (xs.getD i.toNat .none)) : RD M K (rIxLi K) (.list xs) (.int i) Φ := rd_ixL (atI_getD h0 h) q
end
end DL
namespace DL
open PySem L2
section
variable {M : Md} {K : PySem.W.Frag} {ρ : Rho} {tl te : TE} {tt : TT} {Φ : PyData → Prop} {j : Nat}
theorem ed_lcL1 {vs : List Nat} (hv : vs = [j]) (h : EvD M K tl ρ fun d => ∃ ds, d = .list ds ∧ ds.length ≤ 1000000 ∧ ∃ (p : PyData → Bool) (f : PyData → PyData),
      (∀ x ∈ ds, ∀ M' : Md, EvT M' K tt (ρ.set j (.dat x)) fun b => b = p x ∧ (p x = true → EvD M' K te (ρ.set j (.dat x)) fun d => d = f x)) ∧ Φ (.list ((ds.filter p).map f))) : EvD M K (tLc (iList K tl) (gName j) tt te vs) ρ Φ := hv ▸
  ed_lcL (fun x => ρ.set j (.dat x)) (fun σ x M' v H e dv Q k => hg_name σ x M' v H e dv Q k) h
theorem ed_lcT1 {vs : List Nat} (hv : vs = [j]) (h : EvD M K tl ρ fun d => ∃ ds, d = .tuple ds ∧ ds.length ≤ 1000000 ∧ ∃ (p : PyData → Bool) (f : PyData → PyData),
      (∀ x ∈ ds, ∀ M' : Md, EvT M' K tt (ρ.set j (.dat x)) fun b => b = p x ∧ (p x = true → EvD M' K te (ρ.set j (.dat x)) fun d => d = f x)) ∧ Φ (.list ((ds.filter p).map f))) : EvD M K (tLc (iTup K tl) (gName j) tt te vs) ρ Φ := hv ▸
  ed_lcT (fun x => ρ.set j (.dat x)) (fun σ x M' v H e dv Q k => hg_name σ x M' v H e dv Q k) h
theorem ft (ds : List PyData) : ds.filter (fun _ => true) = ds := List.filter_eq_self.mpr fun _ _ => rfl
theorem ed_lcL1y {vs : List Nat} (hv : vs = [j]) (h : EvD M K tl ρ fun d => ∃ ds, d = .list ds ∧ ds.length ≤ 1000000 ∧ ∃ (f : PyData → PyData),
      (∀ x ∈ ds, ∀ M' : Md, EvD M' K te (ρ.set j (.dat x)) fun d => d = f x) ∧ Φ (.list (ds.map f))) : EvD M K (tLc (iList K tl) (gName j) tYes te vs) ρ Φ := hv ▸
  ed_lcL1 rfl (h.mono fun d ⟨ds, e, hz, f, h1, q⟩ => ⟨ds, e, hz, fun _ => true, f, fun x hx M' => et_yes ⟨rfl, fun _ => h1 x hx M'⟩, by rw [ft]; exact q⟩)
theorem ed_lcT1y {vs : List Nat} (hv : vs = [j]) (h : EvD M K tl ρ fun d => ∃ ds, d = .tuple ds ∧ ds.length ≤ 1000000 ∧ ∃ (f : PyData → PyData),
      (∀ x ∈ ds, ∀ M' : Md, EvD M' K te (ρ.set j (.dat x)) fun d => d = f x) ∧ Φ (.list (ds.map f))) : EvD M K (tLc (iTup K tl) (gName j) tYes te vs) ρ Φ := hv ▸
  ed_lcT1 rfl (h.mono fun d ⟨ds, e, hz, f, h1, q⟩ => ⟨ds, e, hz, fun _ => true, f, fun x hx M' => et_yes ⟨rfl, fun _ => h1 x hx M'⟩, by rw [ft]; exact q⟩)
/-- all([t(x) for x in xs]) -/
theorem cd_allM {ds : List PyData} {p : PyData → Bool} {Φ : PyData → Prop} (q : Φ (.bool (ds.all p))) : CD M K (rAll K) [.list (ds.map fun x => .bool (p x))] Φ := by
  have e : (ds.map fun x => PyData.bool (p x)) = (ds.map p).map PyData.bool := by rw [List.map_map]; rfl
  rw [e]
  refine cd_all ?_
  have e2 : (ds.map p).all id = ds.all p := by rw [List.all_map]; rfl
  rw [e2]
  exact q
end
end DL

namespace DL
open PySem L2
section
variable {M : Md} {K : PySem.W.Frag} {ρ : Rho} {ta tb : TE} {Φ : PyData → Prop}
theorem ed_andE (h : EvD M K ta ρ fun x => ∃ c e, x = .bool c ∧ EvD M K tb ρ (fun y => y = .bool e) ∧ Φ (.bool (c && e))) : EvD M K (tAndV ta tb) ρ Φ := ed_andV (h.mono fun x ⟨c, e, hx, hb, q⟩ => ⟨c, hx, fun hc => hb.mono fun y hy => by rw [hy]; rw [hc] at q; exact q, fun hc => by rw [hc] at q; exact q⟩)
theorem ex1c {α : Type} {c e : Bool} {P Q : Prop} (p : P) (q : Q) : P ∧ Q := ⟨p, q⟩
end
theorem len2 {α : Type} {l : List α} (h : l.length = 2) : ∃ a b, l = [a, b] := by
  match l, h with
  | [a, b], _ => exact ⟨a, b, rfl⟩
theorem len3 {α : Type} {l : List α} (h : l.length = 3) : ∃ a b c, l = [a, b, c] := by
  match l, h with
  | [a, b, c], _ => exact ⟨a, b, c, rfl⟩
theorem len4 {α : Type} {l : List α} (h : l.length = 4) : ∃ a b c d, l = [a, b, c, d] := by
  match l, h with
  | [a, b, c, d], _ => exact ⟨a, b, c, d, rfl⟩
theorem len5 {α : Type} {l : List α} (h : l.length = 5) : ∃ a b c d e, l = [a, b, c, d, e] := by
  match l, h with
  | [a, b, c, d, e], _ => exact ⟨a, b, c, d, e, rfl⟩
end DL

namespace DL
open PySem L2
section
variable {M : Md} {K : PySem.W.Frag} {Φ : PyData → Prop}
theorem rd_ixT0 {d : PyData} {ds : List PyData} (q : Φ d) : RD M K (rIxTu K) (.tuple (d :: ds)) (.int 0) Φ := rd_ixT (by have h := atI_getD (xs := d :: ds) (i := 0) (by decide) (by simp); simpa using h) q
theorem rd_ixL0 {d : PyData} {ds : List PyData} (q : Φ d) : RD M K (rIxLi K) (.list (d :: ds)) (.int 0) Φ := rd_ixL (by have h := atI_getD (xs := d :: ds) (i := 0) (by decide) (by simp); simpa using h) q
end
end DL

namespace DL
theorem cTT {A B : Prop} (a : A) : (true = true → A) ∧ (true = false → B) := ⟨fun _ => a, fun z => by cases z⟩
theorem cFT {A B : Prop} (b : B) : (false = true → A) ∧ (false = false → B) := ⟨fun z => (by cases z), fun _ => b⟩
theorem cTF {A B : Prop} (b : B) : (true = false → A) ∧ (true = true → B) := ⟨fun z => (by cases z), fun _ => b⟩
theorem cFF {A B : Prop} (a : A) : (false = false → A) ∧ (false = true → B) := ⟨fun _ => a, fun z => by cases z⟩
theorem nTT {A B : Prop} (b : B) : ((!true) = true → A) ∧ ((!true) = false → B) := ⟨fun z => (by cases z), fun _ => b⟩
theorem nFT {A B : Prop} (a : A) : ((!false) = true → A) ∧ ((!false) = false → B) := ⟨fun _ => a, fun z => by cases z⟩
theorem nTF {A B : Prop} (a : A) : ((!true) = false → A) ∧ ((!true) = true → B) := ⟨fun _ => a, fun z => by cases z⟩
theorem nFF {A B : Prop} (b : B) : ((!false) = false → A) ∧ ((!false) = true → B) := ⟨fun z => (by cases z), fun _ => b⟩
end DL
namespace DL
open PySem L2
def rCountP (K : PySem.W.Frag) : V → List V → Hp → VK → Prop := fun x xs H Q => ∃ (p : Addr) (vs : List V) (y : V) (ds : List PyData) (d : PyData), x = .ref p ∧ xs = [y] ∧ SqL K H p vs ∧ DpAll K H vs ds ∧ Dp K H y d ∧ okIn d ds ∧ Q (.int (ds.countP fun e => PyData.eqv e d : Nat)) H
theorem mCount {X : Cx} (hu : X.A.units + 64 < cLine) : MtR X "list.count" (rCountP X.K) := by
  intro pins s σ H x xs v us Q I rx rxs h
  obtain ⟨p, vs, y, ds, d, rfl, rfl, hs, ha, hy, ⟨sd, se, hm⟩, q⟩ := h
  cases rx
  obtain ⟨u, rfl, ru⟩ := rxs.one
  obtain ⟨its, rv, ⟨o, n, ho, hc, hdn, hd⟩, hlen⟩ := I.list hs
  obtain ⟨as, r1⟩ := Dp.readsAll I ds _ its ha rv
  obtain ⟨bs, r2⟩ := Dp.reads I d y u hy ru
  exact SeqAt.count_list_data (vs := its.toArray) ⟨o, ho, hc, n, hd⟩ (by simpa using r1) r2 se sd (by omega) ⟨.int _, H, I.tok _, ⟨_, rfl⟩, q⟩
theorem ed_count {M : Md} {K : PySem.W.Frag} {ρ : Rho} {to te : TE} {Φ : PyData → Prop} (h : EvD M K to ρ fun x => ∃ ds, x = .list ds ∧ EvD M K te ρ fun d => okIn d ds ∧ Φ (.int (ds.countP fun e => PyData.eqv e d : Nat))) : EvD M K (tBM K "list" (rCountP K) to (tCons te tNil)) ρ Φ := fun σ H e i Q k =>
  h σ H e i _ fun vx H1 x r1 dx hx => by
    obtain ⟨ds, rfl, h2⟩ := hx
    cases dx with
    | @lst a xs _ hl nl al =>
      refine ⟨.inl ⟨rfl, _, SqL.of hl⟩, ?_⟩
      refine h2 σ H1 (e.on r1) (M.invR i r1) _ fun vy H2 y r2 dy hy => ?_
      exact ⟨a, xs, vy, ds, y, rfl, rfl, SqL.of (M.keep r2 nl hl), DtAll.dp _ _ (al.on r2), Dt.dp _ _ dy, hy.1, k _ H2 _ (M.trans r1 r2) (.int _) hy.2⟩
end DL
set_option Elab.async false
set_option linter.all false
set_option maxRecDepth 100000
set_option maxHeartbeats 2000000
namespace CL
open PySem L2 DL
def top (i : Nat) : Stmt := PySem.Challenge.pw_copiedlengths_k12_whole_texts_of_scripts.main.body.getD i (.Pass ⟨0, 0, 0, 0⟩)
theorem pe_globS {X : Cx} {x s : PySem.Str} {pos : Pos} (h : ∃ t, X.mg x = some (.str s t)) (hg : Gl X x) (hd : (x == ("__debug__" : PySem.Str)) = false := by decide) : PE X (.Name x pos) (tC (.str s)) := by
  obtain ⟨t, h⟩ := h
  exact pe_glob hg h ⟨_, rfl⟩ hd
theorem pe_globR {X : Cx} {x : PySem.Str} {a : Addr} {pos : Pos} (h : X.mg x = some (.ref a)) (hg : Gl X x) (hd : (x == ("__debug__" : PySem.Str)) = false := by decide) : PE X (.Name x pos) (tC (.ref a)) := pe_glob hg h rfl hd
theorem pe_globI {X : Cx} {x : PySem.Str} {i : Int} {pos : Pos} (h : ∃ t, X.mg x = some (.int i t)) (hg : Gl X x) (hd : (x == ("__debug__" : PySem.Str)) = false := by decide) : PE X (.Name x pos) (tC (.int i)) := by
  obtain ⟨t, h⟩ := h
  exact pe_glob hg h ⟨_, rfl⟩ hd

abbrev s_common : Stmt := top 6
abbrev N_common : List PySem.Str := ["one", "other"]
abbrev P_common : List PySem.Str := ["one", "other"]
theorem sc_common : FnScope N_common P_common (defScope s_common) := ⟨rfl, rfl, rfl, by decide +kernel, rfl, by decide +kernel, by decide +kernel⟩
abbrev s_lowest : Stmt := top 7
abbrev N_lowest : List PySem.Str := ["top", "below", "part"]
abbrev P_lowest : List PySem.Str := ["top", "below"]
theorem sc_lowest : FnScope N_lowest P_lowest (defScope s_lowest) := ⟨rfl, rfl, rfl, by decide +kernel, rfl, by decide +kernel, by decide +kernel⟩
abbrev s_is_less : Stmt := top 8
abbrev N_is_less : List PySem.Str := ["one", "other"]
abbrev P_is_less : List PySem.Str := ["one", "other"]
theorem sc_is_less : FnScope N_is_less P_is_less (defScope s_is_less) := ⟨rfl, rfl, rfl, by decide +kernel, rfl, by decide +kernel, by decide +kernel⟩
abbrev s_is_integer : Stmt := top 26
abbrev N_is_integer : List PySem.Str := ["value"]
abbrev P_is_integer : List PySem.Str := ["value"]
theorem sc_is_integer : FnScope N_is_integer P_is_integer (defScope s_is_integer) := ⟨rfl, rfl, rfl, by decide +kernel, rfl, by decide +kernel, by decide +kernel⟩
abbrev s_is_from : Stmt := top 27
abbrev N_is_from : List PySem.Str := ["value", "low", "high"]
abbrev P_is_from : List PySem.Str := ["value", "low", "high"]
theorem sc_is_from : FnScope N_is_from P_is_from (defScope s_is_from) := ⟨rfl, rfl, rfl, by decide +kernel, rfl, by decide +kernel, by decide +kernel⟩
abbrev s_is_tuple_of : Stmt := top 28
abbrev N_is_tuple_of : List PySem.Str := ["value", "many"]
abbrev P_is_tuple_of : List PySem.Str := ["value", "many"]
theorem sc_is_tuple_of : FnScope N_is_tuple_of P_is_tuple_of (defScope s_is_tuple_of) := ⟨rfl, rfl, rfl, by decide +kernel, rfl, by decide +kernel, by decide +kernel⟩
abbrev s_is_word : Stmt := top 29
abbrev N_is_word : List PySem.Str := ["value", "some"]
abbrev P_is_word : List PySem.Str := ["value", "some"]
theorem sc_is_word : FnScope N_is_word P_is_word (defScope s_is_word) := ⟨rfl, rfl, rfl, by decide +kernel, rfl, by decide +kernel, by decide +kernel⟩
abbrev s_is_any_fraction : Stmt := top 30
abbrev N_is_any_fraction : List PySem.Str := ["value"]
abbrev P_is_any_fraction : List PySem.Str := ["value"]
theorem sc_is_any_fraction : FnScope N_is_any_fraction P_is_any_fraction (defScope s_is_any_fraction) := ⟨rfl, rfl, rfl, by decide +kernel, rfl, by decide +kernel, by decide +kernel⟩
abbrev s_is_fraction : Stmt := top 31
abbrev N_is_fraction : List PySem.Str := ["value", "most"]
abbrev P_is_fraction : List PySem.Str := ["value", "most"]
theorem sc_is_fraction : FnScope N_is_fraction P_is_fraction (defScope s_is_fraction) := ⟨rfl, rfl, rfl, by decide +kernel, rfl, by decide +kernel, by decide +kernel⟩
abbrev s_are_bounds : Stmt := top 32
abbrev N_are_bounds : List PySem.Str := ["value", "low", "high"]
abbrev P_are_bounds : List PySem.Str := ["value", "low", "high"]
theorem sc_are_bounds : FnScope N_are_bounds P_are_bounds (defScope s_are_bounds) := ⟨rfl, rfl, rfl, by decide +kernel, rfl, by decide +kernel, by decide +kernel⟩
abbrev s_is_tape : Stmt := top 33
abbrev N_is_tape : List PySem.Str := ["value"]
abbrev P_is_tape : List PySem.Str := ["value"]
theorem sc_is_tape : FnScope N_is_tape P_is_tape (defScope s_is_tape) := ⟨rfl, rfl, rfl, by decide +kernel, rfl, by decide +kernel, by decide +kernel⟩
abbrev s_is_world : Stmt := top 34
abbrev N_is_world : List PySem.Str := ["value", "tape"]
abbrev P_is_world : List PySem.Str := ["value"]
theorem sc_is_world : FnScope N_is_world P_is_world (defScope s_is_world) := ⟨rfl, rfl, rfl, by decide +kernel, rfl, by decide +kernel, by decide +kernel⟩
abbrev s_is_name : Stmt := top 35
abbrev N_is_name : List PySem.Str := ["value"]
abbrev P_is_name : List PySem.Str := ["value"]
theorem sc_is_name : FnScope N_is_name P_is_name (defScope s_is_name) := ⟨rfl, rfl, rfl, by decide +kernel, rfl, by decide +kernel, by decide +kernel⟩
abbrev s_is_mark : Stmt := top 36
abbrev N_is_mark : List PySem.Str := ["value"]
abbrev P_is_mark : List PySem.Str := ["value"]
theorem sc_is_mark : FnScope N_is_mark P_is_mark (defScope s_is_mark) := ⟨rfl, rfl, rfl, by decide +kernel, rfl, by decide +kernel, by decide +kernel⟩
abbrev s_is_plain : Stmt := top 37
abbrev N_is_plain : List PySem.Str := ["world", "value", "word", "tapes", "many", "part"]
abbrev P_is_plain : List PySem.Str := ["world", "value"]
theorem sc_is_plain : FnScope N_is_plain P_is_plain (defScope s_is_plain) := ⟨rfl, rfl, rfl, by decide +kernel, rfl, by decide +kernel, by decide +kernel⟩
abbrev s_is_body : Stmt := top 38
abbrev N_is_body : List PySem.Str := ["world", "value", "step"]
abbrev P_is_body : List PySem.Str := ["world", "value"]
theorem sc_is_body : FnScope N_is_body P_is_body (defScope s_is_body) := ⟨rfl, rfl, rfl, by decide +kernel, rfl, by decide +kernel, by decide +kernel⟩
abbrev s_is_step : Stmt := top 39
abbrev N_is_step : List PySem.Str := ["world", "value", "has_if"]
abbrev P_is_step : List PySem.Str := ["world", "value", "has_if"]
theorem sc_is_step : FnScope N_is_step P_is_step (defScope s_is_step) := ⟨rfl, rfl, rfl, by decide +kernel, rfl, by decide +kernel, by decide +kernel⟩
abbrev s_all_steps : Stmt := top 40
abbrev N_all_steps : List PySem.Str := ["script", "found", "step"]
abbrev P_all_steps : List PySem.Str := ["script"]
theorem sc_all_steps : FnScope N_all_steps P_all_steps (defScope s_all_steps) := ⟨rfl, rfl, rfl, by decide +kernel, rfl, by decide +kernel, by decide +kernel⟩
abbrev s_is_script_of : Stmt := top 41
abbrev N_is_script_of : List PySem.Str := ["world", "value", "words", "step"]
abbrev P_is_script_of : List PySem.Str := ["world", "value"]
theorem sc_is_script_of : FnScope N_is_script_of P_is_script_of (defScope s_is_script_of) := ⟨rfl, rfl, rfl, by decide +kernel, rfl, by decide +kernel, by decide +kernel⟩
abbrev s_need_world : Stmt := top 42
abbrev N_need_world : List PySem.Str := ["value"]
abbrev P_need_world : List PySem.Str := ["value"]
theorem sc_need_world : FnScope N_need_world P_need_world (defScope s_need_world) := ⟨rfl, rfl, rfl, by decide +kernel, rfl, by decide +kernel, by decide +kernel⟩
abbrev s_need_script : Stmt := top 43
abbrev N_need_script : List PySem.Str := ["world", "value"]
abbrev P_need_script : List PySem.Str := ["world", "value"]
theorem sc_need_script : FnScope N_need_script P_need_script (defScope s_need_script) := ⟨rfl, rfl, rfl, by decide +kernel, rfl, by decide +kernel, by decide +kernel⟩
abbrev s_lines_of : Stmt := top 47
abbrev N_lines_of : List PySem.Str := ["script", "found", "step", "part"]
abbrev P_lines_of : List PySem.Str := ["script"]
theorem sc_lines_of : FnScope N_lines_of P_lines_of (defScope s_lines_of) := ⟨rfl, rfl, rfl, by decide +kernel, rfl, by decide +kernel, by decide +kernel⟩
abbrev s_integer_of : Stmt := top 48
abbrev N_integer_of : List PySem.Str := ["word", "number"]
abbrev P_integer_of : List PySem.Str := ["word"]
theorem sc_integer_of : FnScope N_integer_of P_integer_of (defScope s_integer_of) := ⟨rfl, rfl, rfl, by decide +kernel, rfl, by decide +kernel, by decide +kernel⟩
abbrev s_step_of : Stmt := top 49
abbrev N_step_of : List PySem.Str := ["world", "line", "words", "good", "step", "word"]
abbrev P_step_of : List PySem.Str := ["world", "line"]
theorem sc_step_of : FnScope N_step_of P_step_of (defScope s_step_of) := ⟨rfl, rfl, rfl, by decide +kernel, rfl, by decide +kernel, by decide +kernel⟩
abbrev s_put_together : Stmt := top 50
abbrev N_put_together : List PySem.Str := ["rows", "found", "head", "first", "body", "row"]
abbrev P_put_together : List PySem.Str := ["rows"]
theorem sc_put_together : FnScope N_put_together P_put_together (defScope s_put_together) := ⟨rfl, rfl, rfl, by decide +kernel, rfl, by decide +kernel, by decide +kernel⟩
abbrev s_script_read : Stmt := top 51
abbrev N_script_read : List PySem.Str := ["world", "value", "lines", "rows", "place", "line", "row", "found"]
abbrev P_script_read : List PySem.Str := ["world", "value"]
theorem sc_script_read : FnScope N_script_read P_script_read (defScope s_script_read) := ⟨rfl, rfl, rfl, by decide +kernel, rfl, by decide +kernel, by decide +kernel⟩
abbrev s_script_text : Stmt := top 52
abbrev N_script_text : List PySem.Str := ["world", "script"]
abbrev P_script_text : List PySem.Str := ["world", "script"]
theorem sc_script_text : FnScope N_script_text P_script_text (defScope s_script_text) := ⟨rfl, rfl, rfl, by decide +kernel, rfl, by decide +kernel, by decide +kernel⟩
abbrev s_read_script : Stmt := top 53
abbrev N_read_script : List PySem.Str := ["world", "value"]
abbrev P_read_script : List PySem.Str := ["world", "value"]
theorem sc_read_script : FnScope N_read_script P_read_script (defScope s_read_script) := ⟨rfl, rfl, rfl, by decide +kernel, rfl, by decide +kernel, by decide +kernel⟩
abbrev s_law_jar : Stmt := top 55
abbrev N_law_jar : List PySem.Str := ["_law_script_here", "_law_k", "_law_cell"]
abbrev P_law_jar : List PySem.Str := ["_law_script_here", "_law_k"]
theorem sc_law_jar : FnScope N_law_jar P_law_jar (defScope s_law_jar) := ⟨rfl, rfl, rfl, by decide +kernel, rfl, by decide +kernel, by decide +kernel⟩
abbrev s_law_dip : Stmt := top 56
abbrev N_law_dip : List PySem.Str := ["_law_jar_here", "_law_many", "_law_found", "_law_stirred"]
abbrev P_law_dip : List PySem.Str := ["_law_jar_here", "_law_many"]
theorem sc_law_dip : FnScope N_law_dip P_law_dip (defScope s_law_dip) := ⟨rfl, rfl, rfl, by decide +kernel, rfl, by decide +kernel, by decide +kernel⟩
abbrev s_law_any_of : Stmt := top 57
abbrev N_law_any_of : List PySem.Str := ["_law_jar_here", "_law_some"]
abbrev P_law_any_of : List PySem.Str := ["_law_jar_here", "_law_some"]
theorem sc_law_any_of : FnScope N_law_any_of P_law_any_of (defScope s_law_any_of) := ⟨rfl, rfl, rfl, by decide +kernel, rfl, by decide +kernel, by decide +kernel⟩
abbrev s_law_low : Stmt := top 58
abbrev N_law_low : List PySem.Str := ["_law_top", "_law_below", "_law_one", "_law_rest"]
abbrev P_law_low : List PySem.Str := ["_law_top", "_law_below"]
theorem sc_law_low : FnScope N_law_low P_law_low (defScope s_law_low) := ⟨rfl, rfl, rfl, by decide +kernel, rfl, by decide +kernel, by decide +kernel⟩
abbrev s_law_pair : Stmt := top 59
abbrev N_law_pair : List PySem.Str := ["_law_jar_here", "_law_low_here", "_law_high", "_law_below", "_law_base", "_law_far"]
abbrev P_law_pair : List PySem.Str := ["_law_jar_here", "_law_low_here", "_law_high", "_law_below"]
theorem sc_law_pair : FnScope N_law_pair P_law_pair (defScope s_law_pair) := ⟨rfl, rfl, rfl, by decide +kernel, rfl, by decide +kernel, by decide +kernel⟩
abbrev s_law_world : Stmt := top 60
abbrev N_law_world : List PySem.Str := ["_law_jar_here", "_law_tapes", "_law_turn", "_law_below", "_law_some", "_law_lack"]
abbrev P_law_world : List PySem.Str := ["_law_jar_here"]
theorem sc_law_world : FnScope N_law_world P_law_world (defScope s_law_world) := ⟨rfl, rfl, rfl, by decide +kernel, rfl, by decide +kernel, by decide +kernel⟩
abbrev s_law_name : Stmt := top 61
abbrev N_law_name : List PySem.Str := ["_law_jar_here", "_law_some", "_law_good"]
abbrev P_law_name : List PySem.Str := ["_law_jar_here", "_law_some"]
theorem sc_law_name : FnScope N_law_name P_law_name (defScope s_law_name) := ⟨rfl, rfl, rfl, by decide +kernel, rfl, by decide +kernel, by decide +kernel⟩
abbrev s_law_plain : Stmt := top 62
abbrev N_law_plain : List PySem.Str := ["_law_jar_here", "_law_world_here", "_law_some", "_law_kinds_here", "_law_tape", "_law_mark", "_law_piece", "_law_one", "_law_two", "_law_many", "_law_rest", "_law_shapes"]
abbrev P_law_plain : List PySem.Str := ["_law_jar_here", "_law_world_here", "_law_some", "_law_kinds_here"]
theorem sc_law_plain : FnScope N_law_plain P_law_plain (defScope s_law_plain) := ⟨rfl, rfl, rfl, by decide +kernel, rfl, by decide +kernel, by decide +kernel⟩
abbrev s_law_script : Stmt := top 63
abbrev N_law_script : List PySem.Str := ["_law_jar_here", "_law_world_here", "_law_most", "_law_kinds_here", "_law_found", "_law_some", "_law_turn", "_law_step", "_law_seen", "_law_other", "_law_one"]
abbrev P_law_script : List PySem.Str := ["_law_jar_here", "_law_world_here", "_law_most", "_law_kinds_here"]
theorem sc_law_script : FnScope N_law_script P_law_script (defScope s_law_script) := ⟨rfl, rfl, rfl, by decide +kernel, rfl, by decide +kernel, by decide +kernel⟩
abbrev s_law_kinds : Stmt := top 64
abbrev N_law_kinds : List PySem.Str := []
abbrev P_law_kinds : List PySem.Str := []
theorem sc_law_kinds : FnScope N_law_kinds P_law_kinds (defScope s_law_kinds) := ⟨rfl, rfl, rfl, by decide +kernel, rfl, by decide +kernel, by decide +kernel⟩
abbrev s_law_lines : Stmt := top 65
abbrev N_law_lines : List PySem.Str := ["_law_steps", "_law_found", "_law_step", "_law_part"]
abbrev P_law_lines : List PySem.Str := ["_law_steps"]
theorem sc_law_lines : FnScope N_law_lines P_law_lines (defScope s_law_lines) := ⟨rfl, rfl, rfl, by decide +kernel, rfl, by decide +kernel, by decide +kernel⟩
abbrev s_law_word_good : Stmt := top 66
abbrev N_law_word_good : List PySem.Str := ["_law_word", "_law_sort", "_law_tapes", "_law_some", "_law_number"]
abbrev P_law_word_good : List PySem.Str := ["_law_word", "_law_sort", "_law_tapes"]
theorem sc_law_word_good : FnScope N_law_word_good P_law_word_good (defScope s_law_word_good) := ⟨rfl, rfl, rfl, by decide +kernel, rfl, by decide +kernel, by decide +kernel⟩
abbrev s_law_line_good : Stmt := top 67
abbrev N_law_line_good : List PySem.Str := ["_law_line", "_law_tapes", "_law_words", "_law_sorts", "_law_shape", "_law_pairs", "_law_word", "_law_sort"]
abbrev P_law_line_good : List PySem.Str := ["_law_line", "_law_tapes"]
theorem sc_law_line_good : FnScope N_law_line_good P_law_line_good (defScope s_law_line_good) := ⟨rfl, rfl, rfl, by decide +kernel, rfl, by decide +kernel, by decide +kernel⟩
abbrev s_law_whole_good : Stmt := top 68
abbrev N_law_whole_good : List PySem.Str := ["_law_lines_here", "_law_top", "_law_body", "_law_kind", "_law_reads", "_law_steps", "_law_line", "_law_word"]
abbrev P_law_whole_good : List PySem.Str := ["_law_lines_here"]
theorem sc_law_whole_good : FnScope N_law_whole_good P_law_whole_good (defScope s_law_whole_good) := ⟨rfl, rfl, rfl, by decide +kernel, rfl, by decide +kernel, by decide +kernel⟩
abbrev s_law_due : Stmt := top 69
abbrev N_law_due : List PySem.Str := ["_law_text", "_law_tapes", "_law_lines_here", "_law_at"]
abbrev P_law_due : List PySem.Str := ["_law_text", "_law_tapes"]
theorem sc_law_due : FnScope N_law_due P_law_due (defScope s_law_due) := ⟨rfl, rfl, rfl, by decide +kernel, rfl, by decide +kernel, by decide +kernel⟩
abbrev s_law_read : Stmt := top 70
abbrev N_law_read : List PySem.Str := ["_law_world_here", "_law_text", "e"]
abbrev P_law_read : List PySem.Str := ["_law_world_here", "_law_text"]
theorem sc_law_read : FnScope N_law_read P_law_read (defScope s_law_read) := ⟨rfl, rfl, rfl, by decide +kernel, rfl, by decide +kernel, by decide +kernel⟩
abbrev s_law_bent : Stmt := top 71
abbrev N_law_bent : List PySem.Str := ["_law_jar_here", "_law_text", "_law_lines_here", "_law_at", "_law_kind", "_law_spot", "_law_words", "_law_here", "_law_more", "_law_both", "_law_word", "_law_line"]
abbrev P_law_bent : List PySem.Str := ["_law_jar_here", "_law_text"]
theorem sc_law_bent : FnScope N_law_bent P_law_bent (defScope s_law_bent) := ⟨rfl, rfl, rfl, by decide +kernel, rfl, by decide +kernel, by decide +kernel⟩
abbrev s_law : Stmt := top 72
abbrev N_law : List PySem.Str := ["_law_script_here", "_law_k", "_law_jar_here", "_law_world_here", "_law_steps", "_law_text", "_law_turn", "_law_bent_here", "_law_found", "_law_due_here", "_law_odd", "_law_rows", "_law_one"]
abbrev P_law : List PySem.Str := ["_law_script_here"]
theorem sc_law : FnScope N_law P_law (defScope s_law) := ⟨rfl, rfl, rfl, by decide +kernel, rfl, by decide +kernel, by decide +kernel⟩
structure Ads where
  common : Addr
  lowest : Addr
  is_less : Addr
  is_integer : Addr
  is_from : Addr
  is_tuple_of : Addr
  is_word : Addr
  is_any_fraction : Addr
  is_fraction : Addr
  are_bounds : Addr
  is_tape : Addr
  is_world : Addr
  is_name : Addr
  is_mark : Addr
  is_plain : Addr
  is_body : Addr
  is_step : Addr
  all_steps : Addr
  is_script_of : Addr
  need_world : Addr
  need_script : Addr
  lines_of : Addr
  integer_of : Addr
  step_of : Addr
  put_together : Addr
  script_read : Addr
  script_text : Addr
  read_script : Addr
  law_jar : Addr
  law_dip : Addr
  law_any_of : Addr
  law_low : Addr
  law_pair : Addr
  law_world : Addr
  law_name : Addr
  law_plain : Addr
  law_script : Addr
  law_kinds : Addr
  law_lines : Addr
  law_word_good : Addr
  law_line_good : Addr
  law_whole_good : Addr
  law_due : Addr
  law_read : Addr
  law_bent : Addr
  law : Addr
  NAMES : Addr
  SEEN : Addr
  InvalidText : Addr
  init : Addr
structure Fds where
  common : FuncData
  lowest : FuncData
  is_less : FuncData
  is_integer : FuncData
  is_from : FuncData
  is_tuple_of : FuncData
  is_word : FuncData
  is_any_fraction : FuncData
  is_fraction : FuncData
  are_bounds : FuncData
  is_tape : FuncData
  is_world : FuncData
  is_name : FuncData
  is_mark : FuncData
  is_plain : FuncData
  is_body : FuncData
  is_step : FuncData
  all_steps : FuncData
  is_script_of : FuncData
  need_world : FuncData
  need_script : FuncData
  lines_of : FuncData
  integer_of : FuncData
  step_of : FuncData
  put_together : FuncData
  script_read : FuncData
  script_text : FuncData
  read_script : FuncData
  law_jar : FuncData
  law_dip : FuncData
  law_any_of : FuncData
  law_low : FuncData
  law_pair : FuncData
  law_world : FuncData
  law_name : FuncData
  law_plain : FuncData
  law_script : FuncData
  law_kinds : FuncData
  law_lines : FuncData
  law_word_good : FuncData
  law_line_good : FuncData
  law_whole_good : FuncData
  law_due : FuncData
  law_read : FuncData
  law_bent : FuncData
  law : FuncData
  init : FuncData
/-- what the top leaves -/
structure Txt (K : PySem.W.Frag) (mg : PySem.Str → Option Value) (a : Ads) (d : Fds) : Prop where
  g_common : mg "common" = some (.ref a.common)
  k_common : PySem.W.keepIn K (.ref a.common) = true
  F_common : Fun K "common" "common" s_common a.common d.common
  b_common : Binds K d.common P_common []
  g_lowest : mg "lowest" = some (.ref a.lowest)
  k_lowest : PySem.W.keepIn K (.ref a.lowest) = true
  F_lowest : Fun K "lowest" "lowest" s_lowest a.lowest d.lowest
  b_lowest : Binds K d.lowest P_lowest []
  g_is_less : mg "is_less" = some (.ref a.is_less)
  k_is_less : PySem.W.keepIn K (.ref a.is_less) = true
  F_is_less : Fun K "is_less" "is_less" s_is_less a.is_less d.is_less
  b_is_less : Binds K d.is_less P_is_less []
  g_is_integer : mg "is_integer" = some (.ref a.is_integer)
  k_is_integer : PySem.W.keepIn K (.ref a.is_integer) = true
  F_is_integer : Fun K "is_integer" "is_integer" s_is_integer a.is_integer d.is_integer
  b_is_integer : Binds K d.is_integer P_is_integer []
  g_is_from : mg "is_from" = some (.ref a.is_from)
  k_is_from : PySem.W.keepIn K (.ref a.is_from) = true
  F_is_from : Fun K "is_from" "is_from" s_is_from a.is_from d.is_from
  b_is_from : Binds K d.is_from P_is_from []
  g_is_tuple_of : mg "is_tuple_of" = some (.ref a.is_tuple_of)
  k_is_tuple_of : PySem.W.keepIn K (.ref a.is_tuple_of) = true
  F_is_tuple_of : Fun K "is_tuple_of" "is_tuple_of" s_is_tuple_of a.is_tuple_of d.is_tuple_of
  b_is_tuple_of : Binds K d.is_tuple_of P_is_tuple_of []
  g_is_word : mg "is_word" = some (.ref a.is_word)
  k_is_word : PySem.W.keepIn K (.ref a.is_word) = true
  F_is_word : Fun K "is_word" "is_word" s_is_word a.is_word d.is_word
  b_is_word : Binds K d.is_word P_is_word []
  g_is_any_fraction : mg "is_any_fraction" = some (.ref a.is_any_fraction)
  k_is_any_fraction : PySem.W.keepIn K (.ref a.is_any_fraction) = true
  F_is_any_fraction : Fun K "is_any_fraction" "is_any_fraction" s_is_any_fraction a.is_any_fraction d.is_any_fraction
  b_is_any_fraction : Binds K d.is_any_fraction P_is_any_fraction []
  g_is_fraction : mg "is_fraction" = some (.ref a.is_fraction)
  k_is_fraction : PySem.W.keepIn K (.ref a.is_fraction) = true
  F_is_fraction : Fun K "is_fraction" "is_fraction" s_is_fraction a.is_fraction d.is_fraction
  b_is_fraction : Binds K d.is_fraction P_is_fraction []
  g_are_bounds : mg "are_bounds" = some (.ref a.are_bounds)
  k_are_bounds : PySem.W.keepIn K (.ref a.are_bounds) = true
  F_are_bounds : Fun K "are_bounds" "are_bounds" s_are_bounds a.are_bounds d.are_bounds
  b_are_bounds : Binds K d.are_bounds P_are_bounds []
  g_is_tape : mg "is_tape" = some (.ref a.is_tape)
  k_is_tape : PySem.W.keepIn K (.ref a.is_tape) = true
  F_is_tape : Fun K "is_tape" "is_tape" s_is_tape a.is_tape d.is_tape
  b_is_tape : Binds K d.is_tape P_is_tape []
  g_is_world : mg "is_world" = some (.ref a.is_world)
  k_is_world : PySem.W.keepIn K (.ref a.is_world) = true
  F_is_world : Fun K "is_world" "is_world" s_is_world a.is_world d.is_world
  b_is_world : Binds K d.is_world P_is_world []
  g_is_name : mg "is_name" = some (.ref a.is_name)
  k_is_name : PySem.W.keepIn K (.ref a.is_name) = true
  F_is_name : Fun K "is_name" "is_name" s_is_name a.is_name d.is_name
  b_is_name : Binds K d.is_name P_is_name []
  g_is_mark : mg "is_mark" = some (.ref a.is_mark)
  k_is_mark : PySem.W.keepIn K (.ref a.is_mark) = true
  F_is_mark : Fun K "is_mark" "is_mark" s_is_mark a.is_mark d.is_mark
  b_is_mark : Binds K d.is_mark P_is_mark []
  g_is_plain : mg "is_plain" = some (.ref a.is_plain)
  k_is_plain : PySem.W.keepIn K (.ref a.is_plain) = true
  F_is_plain : Fun K "is_plain" "is_plain" s_is_plain a.is_plain d.is_plain
  b_is_plain : Binds K d.is_plain P_is_plain []
  g_is_body : mg "is_body" = some (.ref a.is_body)
  k_is_body : PySem.W.keepIn K (.ref a.is_body) = true
  F_is_body : Fun K "is_body" "is_body" s_is_body a.is_body d.is_body
  b_is_body : Binds K d.is_body P_is_body []
  g_is_step : mg "is_step" = some (.ref a.is_step)
  k_is_step : PySem.W.keepIn K (.ref a.is_step) = true
  F_is_step : FunD K "is_step" "is_step" (defArgs s_is_step) (defBody s_is_step) (defScope s_is_step) [.bl true] [] a.is_step d.is_step
  bS2 : Binds K d.is_step P_is_step [.bool true]
  bS3 : Binds K d.is_step P_is_step []
  g_all_steps : mg "all_steps" = some (.ref a.all_steps)
  k_all_steps : PySem.W.keepIn K (.ref a.all_steps) = true
  F_all_steps : Fun K "all_steps" "all_steps" s_all_steps a.all_steps d.all_steps
  b_all_steps : Binds K d.all_steps P_all_steps []
  g_is_script_of : mg "is_script_of" = some (.ref a.is_script_of)
  k_is_script_of : PySem.W.keepIn K (.ref a.is_script_of) = true
  F_is_script_of : Fun K "is_script_of" "is_script_of" s_is_script_of a.is_script_of d.is_script_of
  b_is_script_of : Binds K d.is_script_of P_is_script_of []
  g_need_world : mg "need_world" = some (.ref a.need_world)
  k_need_world : PySem.W.keepIn K (.ref a.need_world) = true
  F_need_world : Fun K "need_world" "need_world" s_need_world a.need_world d.need_world
  b_need_world : Binds K d.need_world P_need_world []
  g_need_script : mg "need_script" = some (.ref a.need_script)
  k_need_script : PySem.W.keepIn K (.ref a.need_script) = true
  F_need_script : Fun K "need_script" "need_script" s_need_script a.need_script d.need_script
  b_need_script : Binds K d.need_script P_need_script []
  g_lines_of : mg "lines_of" = some (.ref a.lines_of)
  k_lines_of : PySem.W.keepIn K (.ref a.lines_of) = true
  F_lines_of : Fun K "lines_of" "lines_of" s_lines_of a.lines_of d.lines_of
  b_lines_of : Binds K d.lines_of P_lines_of []
  g_integer_of : mg "integer_of" = some (.ref a.integer_of)
  k_integer_of : PySem.W.keepIn K (.ref a.integer_of) = true
  F_integer_of : Fun K "integer_of" "integer_of" s_integer_of a.integer_of d.integer_of
  b_integer_of : Binds K d.integer_of P_integer_of []
  g_step_of : mg "step_of" = some (.ref a.step_of)
  k_step_of : PySem.W.keepIn K (.ref a.step_of) = true
  F_step_of : Fun K "step_of" "step_of" s_step_of a.step_of d.step_of
  b_step_of : Binds K d.step_of P_step_of []
  g_put_together : mg "put_together" = some (.ref a.put_together)
  k_put_together : PySem.W.keepIn K (.ref a.put_together) = true
  F_put_together : Fun K "put_together" "put_together" s_put_together a.put_together d.put_together
  b_put_together : Binds K d.put_together P_put_together []
  g_script_read : mg "script_read" = some (.ref a.script_read)
  k_script_read : PySem.W.keepIn K (.ref a.script_read) = true
  F_script_read : Fun K "script_read" "script_read" s_script_read a.script_read d.script_read
  b_script_read : Binds K d.script_read P_script_read []
  g_script_text : mg "script_text" = some (.ref a.script_text)
  k_script_text : PySem.W.keepIn K (.ref a.script_text) = true
  F_script_text : Fun K "script_text" "script_text" s_script_text a.script_text d.script_text
  b_script_text : Binds K d.script_text P_script_text []
  g_read_script : mg "read_script" = some (.ref a.read_script)
  k_read_script : PySem.W.keepIn K (.ref a.read_script) = true
  F_read_script : Fun K "read_script" "read_script" s_read_script a.read_script d.read_script
  b_read_script : Binds K d.read_script P_read_script []
  g_law_jar : mg "_law_jar" = some (.ref a.law_jar)
  k_law_jar : PySem.W.keepIn K (.ref a.law_jar) = true
  F_law_jar : Fun K "_law_jar" "_law_jar" s_law_jar a.law_jar d.law_jar
  b_law_jar : Binds K d.law_jar P_law_jar []
  g_law_dip : mg "_law_dip" = some (.ref a.law_dip)
  k_law_dip : PySem.W.keepIn K (.ref a.law_dip) = true
  F_law_dip : Fun K "_law_dip" "_law_dip" s_law_dip a.law_dip d.law_dip
  b_law_dip : Binds K d.law_dip P_law_dip []
  g_law_any_of : mg "_law_any_of" = some (.ref a.law_any_of)
  k_law_any_of : PySem.W.keepIn K (.ref a.law_any_of) = true
  F_law_any_of : Fun K "_law_any_of" "_law_any_of" s_law_any_of a.law_any_of d.law_any_of
  b_law_any_of : Binds K d.law_any_of P_law_any_of []
  g_law_low : mg "_law_low" = some (.ref a.law_low)
  k_law_low : PySem.W.keepIn K (.ref a.law_low) = true
  F_law_low : Fun K "_law_low" "_law_low" s_law_low a.law_low d.law_low
  b_law_low : Binds K d.law_low P_law_low []
  g_law_pair : mg "_law_pair" = some (.ref a.law_pair)
  k_law_pair : PySem.W.keepIn K (.ref a.law_pair) = true
  F_law_pair : Fun K "_law_pair" "_law_pair" s_law_pair a.law_pair d.law_pair
  b_law_pair : Binds K d.law_pair P_law_pair []
  g_law_world : mg "_law_world" = some (.ref a.law_world)
  k_law_world : PySem.W.keepIn K (.ref a.law_world) = true
  F_law_world : Fun K "_law_world" "_law_world" s_law_world a.law_world d.law_world
  b_law_world : Binds K d.law_world P_law_world []
  g_law_name : mg "_law_name" = some (.ref a.law_name)
  k_law_name : PySem.W.keepIn K (.ref a.law_name) = true
  F_law_name : Fun K "_law_name" "_law_name" s_law_name a.law_name d.law_name
  b_law_name : Binds K d.law_name P_law_name []
  g_law_plain : mg "_law_plain" = some (.ref a.law_plain)
  k_law_plain : PySem.W.keepIn K (.ref a.law_plain) = true
  F_law_plain : Fun K "_law_plain" "_law_plain" s_law_plain a.law_plain d.law_plain
  b_law_plain : Binds K d.law_plain P_law_plain []
  g_law_script : mg "_law_script" = some (.ref a.law_script)
  k_law_script : PySem.W.keepIn K (.ref a.law_script) = true
  F_law_script : Fun K "_law_script" "_law_script" s_law_script a.law_script d.law_script
  b_law_script : Binds K d.law_script P_law_script []
  g_law_kinds : mg "_law_kinds" = some (.ref a.law_kinds)
  k_law_kinds : PySem.W.keepIn K (.ref a.law_kinds) = true
  F_law_kinds : Fun K "_law_kinds" "_law_kinds" s_law_kinds a.law_kinds d.law_kinds
  b_law_kinds : Binds K d.law_kinds P_law_kinds []
  g_law_lines : mg "_law_lines" = some (.ref a.law_lines)
  k_law_lines : PySem.W.keepIn K (.ref a.law_lines) = true
  F_law_lines : Fun K "_law_lines" "_law_lines" s_law_lines a.law_lines d.law_lines
  b_law_lines : Binds K d.law_lines P_law_lines []
  g_law_word_good : mg "_law_word_good" = some (.ref a.law_word_good)
  k_law_word_good : PySem.W.keepIn K (.ref a.law_word_good) = true
  F_law_word_good : Fun K "_law_word_good" "_law_word_good" s_law_word_good a.law_word_good d.law_word_good
  b_law_word_good : Binds K d.law_word_good P_law_word_good []
  g_law_line_good : mg "_law_line_good" = some (.ref a.law_line_good)
  k_law_line_good : PySem.W.keepIn K (.ref a.law_line_good) = true
  F_law_line_good : Fun K "_law_line_good" "_law_line_good" s_law_line_good a.law_line_good d.law_line_good
  b_law_line_good : Binds K d.law_line_good P_law_line_good []
  g_law_whole_good : mg "_law_whole_good" = some (.ref a.law_whole_good)
  k_law_whole_good : PySem.W.keepIn K (.ref a.law_whole_good) = true
  F_law_whole_good : Fun K "_law_whole_good" "_law_whole_good" s_law_whole_good a.law_whole_good d.law_whole_good
  b_law_whole_good : Binds K d.law_whole_good P_law_whole_good []
  g_law_due : mg "_law_due" = some (.ref a.law_due)
  k_law_due : PySem.W.keepIn K (.ref a.law_due) = true
  F_law_due : Fun K "_law_due" "_law_due" s_law_due a.law_due d.law_due
  b_law_due : Binds K d.law_due P_law_due []
  g_law_read : mg "_law_read" = some (.ref a.law_read)
  k_law_read : PySem.W.keepIn K (.ref a.law_read) = true
  F_law_read : Fun K "_law_read" "_law_read" s_law_read a.law_read d.law_read
  b_law_read : Binds K d.law_read P_law_read []
  g_law_bent : mg "_law_bent" = some (.ref a.law_bent)
  k_law_bent : PySem.W.keepIn K (.ref a.law_bent) = true
  F_law_bent : Fun K "_law_bent" "_law_bent" s_law_bent a.law_bent d.law_bent
  b_law_bent : Binds K d.law_bent P_law_bent []
  g_law : mg "law" = some (.ref a.law)
  k_law : PySem.W.keepIn K (.ref a.law) = true
  F_law : Fun K "law" "law" s_law a.law d.law
  b_law : Binds K d.law P_law []
  c_CUT : ∃ t, mg "CUT" = some (.str "cut" t)
  c_OUTER : ∃ t, mg "OUTER" = some (.str "outer" t)
  c_INNER : ∃ t, mg "INNER" = some (.str "inner" t)
  c_JOIN : ∃ t, mg "JOIN" = some (.str "join" t)
  c_HALF : ∃ t, mg "HALF" = some (.str "half" t)
  c_SPLIT : ∃ t, mg "SPLIT" = some (.str "split" t)
  c_READ : ∃ t, mg "READ" = some (.str "read" t)
  c_AGAIN : ∃ t, mg "AGAIN" = some (.str "again" t)
  c_HOLD : ∃ t, mg "HOLD" = some (.str "hold" t)
  c_IF : ∃ t, mg "IF" = some (.str "if" t)
  c_LONGER : ∃ t, mg "LONGER" = some (.str "longer" t)
  c_SAME : ∃ t, mg "SAME" = some (.str "same" t)
  c_SHORTER : ∃ t, mg "SHORTER" = some (.str "shorter" t)
  c_ELSE : ∃ t, mg "ELSE" = some (.str "else" t)
  c_END : ∃ t, mg "END" = some (.str "end" t)
  c_MOST_PART : ∃ t, mg "MOST_PART" = some (.int (10 ^ 30) t)
  c_NAMES : mg "NAMES" = some (.ref a.NAMES)
  c_SEEN : mg "SEEN" = some (.ref a.SEEN)
  t_NAMES : ∀ H, SqT K H a.NAMES [.str "a", .str "b", .str "c", .str "d", .str "e", .str "f"]
  t_SEEN : ∀ H, SqT K H a.SEEN [.str "longer", .str "same", .str "shorter"]
  len : mg "len" = none
  abs : mg "abs" = none
  max : mg "max" = none
  min : mg "min" = none
  all : mg "all" = none
  int : mg "int" = none
  str : mg "str" = none
  list : mg "list" = none
  tuple : mg "tuple" = none
  bool : mg "bool" = none
  range : mg "range" = none
  enumerate : mg "enumerate" = none
  isinstance : mg "isinstance" = none
  sorted : mg "sorted" = none
  set : mg "set" = none
  zip : mg "zip" = none
end CL
set_option Elab.async false
set_option linter.all false
set_option maxRecDepth 100000
set_option maxHeartbeats 2000000
namespace PySem
namespace TxE
open PySem.W PySem.Calls PyProof.Rows PySem.HandSPX
/-! the class InvalidText: its own __init__ calls super().__init__ with a text, then keeps the line -/
/-- the body of a class's statement -/
def clsBody : Stmt → List Stmt
  | .ClassDef _ _ _ b _ _ _ _ _ _ _ => b
  | _ => []
/-- the class's __init__, read off the given term -/
def iDef : Stmt := (clsBody (CL.top 4)).getD 0 (.Pass ⟨0, 0, 0, 0⟩)
def iA : Arguments := L2.defArgs iDef
def iB1 : Stmt := (L2.defBody iDef).getD 0 (.Pass ⟨0, 0, 0, 0⟩)
def iB2 : Stmt := (L2.defBody iDef).getD 1 (.Pass ⟨0, 0, 0, 0⟩)
def iS : Scope := L2.defScope iDef
/-- what the written part says of the class, at C, and of its __init__, at fI; cc: the cell of __class__; cda: __init__'s code -/
structure ErrTxt (P : Program) (K : Frag) (mg : PySem.Str → Option Value) (C fI cc cda : Addr) : Prop where
  gC : mg "InvalidText" = some (.ref C)
  cls : ∃ nm q N bs bm sn sub ab col dd k0 k1 k2 k3 k5, K.lookup C = some (excClassObj nm q C N bs bm true sn sub ab col dd k0 k1 k2 k3 k5 "ValueError.__new__") ∧ refsVE bm = true
  sa : findIn K (.ref C) "__setattr__" = some (some (.builtin "object.__setattr__"))
  ga : findIn K (.ref C) "__getattribute__" = some (some (.builtin "BaseException.__getattribute__"))
  gg : findIn K (.ref C) "__getattr__" = some none
  noN : findIn K (.ref C) "line" = some none
  iC : findIn K (.ref C) "__init__" = some (some (.ref fI))
  tC : typeIn K (.ref fI) = some (.type "function")
  kC : keepIn K (.ref C) = true
  exC : subIn K (.ref C) (.type "BaseException") = some true
  veC : subIn K (.ref C) (.type "ValueError") = some true
  tyC : typeIn K (.ref C) = some (.type "type")
  hdC : hasDictIn K C = true
  te : exmOne K (.ref C) (.ref C) = some true
  sub : mroIn K C (.ref C) = some true
  op : nsIn K cStatics "thirdparty.any" = some none
  up : ks_superIn K C C "__init__" = some (some (.builtin "ValueError.__init__"))
  noS : nsIn K mainGlobals "super" = some none
  cell : ∃ cl cld csl, K.lookup cc = some ⟨cl, cld, .cell (some (.ref C)), csl⟩
  code : ∃ ccl cdd vs ccs tf, K.lookup cda = some ⟨ccl, cdd, .fields vs, ccs⟩ ∧ vs[2]? = some (.str P.main.file tf)
  top : (P.main.scope.names.lookup ("super" : PySem.Str)).isSome = false
  fn : ∃ (oc : Value) (od : Option Addr) (doc pm : Value) (an : Option Addr) (ct : Value) (osl : Array (Option Value)),
    K.lookup fI = some ⟨oc, od, .func (ksFn "__init__" "InvalidText.__init__" iA [iB1, iB2] iS .none .none doc pm an (.ref cda) ct cc), osl⟩ ∧ codeIn K (.ref cda) "InvalidText.__init__" = true
theorem one_size (v : Value) : [v].length ≤ sizeLine := by
  rw [sizeLine_eq]
  exact (by decide : 1 ≤ 16777216)
theorem ldK {M : Model} {s : Shared} {env : Env} {m : PySem.Str → Option Value} {x : PySem.Str} {pos : Pos} {v : Value} {Q : Value → Shared → Prop} {A : Around} {E : Value → Shared → Prop} (hk : env.scope.kind = .function) (hl : env.kindOf x = some .local)
    (hn : s.heap.Ns env.locals m) (hv : m x = some v) (h : Q v s) (hd : (x == ("__debug__" : PySem.Str)) = false := by decide) :
    wpAny M A (eval (.Name x pos) env) Q E s := wpAny_Name (wpAny_loadName_local hk hl hn hv h) hd
section
variable {prog : Program} {w : World} {A : Around} {E : Value → Shared → Prop} {R : Result → Shared → Prop} {K : Frag} {mg : PySem.Str → Option Value} {C fI cc cda : Addr}
/-- the way to the built-in __init__ bound to the object, called -/
theorem mw_call {hp : Heap} {g : Array GenState} {d : Drawn} {t : Nat} {os : OsState} (T : ErrTxt prog K mg C fI cc cda) {u x t0 : Addr} {rest : List Value} {Q : Value → Shared → Prop} (X : K.In hp)
    (hu : hp.get? u = some (kxs_mw "ValueError.__init__" x)) (hx : hp.get? x = some (excO C t0)) (hz : rest.length ≤ sizeLine)
    (h : ∀ h' t1, (∀ b o, b ≠ x → hp.get? b = some o → h'.get? b = some o) → h'.get? x = some (excO C t1) → Q .none ⟨h', g, d, t, os⟩) :
    wpAny (model prog w) A (call (.ref u) rest) Q E ⟨hp, g, d, t, os⟩ := by
  obtain ⟨nm, q, N, bs, bm, sn, sub, ab, col, dd, k0, k1, k2, k3, k5, hC, hbm⟩ := T.cls
  refine wpAny_call (codeAny_of_tree ?_)
  show wpAny _ A.in1 (callAny (.ref u) ⟨rest, []⟩) _ _ _
  simp only [callAny]
  refine wpAny_bind (wpAny_load hu ?_)
  simp only [kxs_mw, show (Value.type "method-wrapper" == Value.type "method" || Value.type "method-wrapper" == Value.type "builtin_function_or_method" || Value.type "method-wrapper" == Value.type "method-wrapper") = true by decide, if_true]
  refine KFB.if_so (by decide) ?_
  refine wpAny_bind (check_bound_init F.excBase_ValueError.toExcCallFacts (X _ _ hC) hx rfl ?_)
  refine wpAny_bind (wpAny_pure (wpAny_pure ?_))
  refine ⟨plainId_quiet F.excBase_ValueError.init.plain _, codeAny_builtin F.excBase_ValueError.initEntry ?_⟩
  exact exc_init_tree (cls := .ref C) (t0 := t0) (dv := none) (c2 := .none) (c3 := .none) (b4 := .bool false) hx hz fun h' k e' _ => h h' _ k e'

/-- what __init__ leaves of a fresh exception at x -/
structure InitEnd (h h' : Heap) (x C dx t1 : Addr) (v : Value) : Prop where
  keep : ∀ b o, b ≠ x → h.get? b = some o → h'.get? b = some o
  obj : h'.get? x = some { cls := .ref C, dict := some dx, data := .fields #[.ref t1, .none, .none, .none, .bool false, .none] }
  dbig : h.objs.size ≤ dx
  dne : dx ≠ x
  ns : h'.Ns1 dx (fun y => if y = "line" then some v else none)
theorem err_init {s : Shared} (T : ErrTxt prog K mg C fI cc cda) {x t0 : Addr} {v : Value} (X : K.In s.heap) (G : s.heap.Ns mainGlobals mg) (hb : ∃ mb, s.heap.Ns builtinsNs mb ∧ ∀ x : PySem.Str, x ≠ "__name__" → mb x = bootBuiltins x)
    (hlim : s.heap.NoLimit) (hx : s.heap.get? x = some (excO C t0)) (hnx : K.lookup x = none) (hroom : A.depth < recursionLimit)
    (hq : ∀ h' tk dx t1, InitEnd s.heap h' x C dx t1 v → R (.ok (.ret .none)) { s with heap := h', toks := tk }) :
    codeAny (model prog w) A (.call (.ref fI) ⟨[.ref x, v], []⟩) R s := by
  obtain ⟨oc, od, doc, pm, an, ct, osl, ho, hcd⟩ := T.fn
  obtain ⟨nm, q, N, bs, bm, sn, sub, ab, col, dd, k0, k1, k2, k3, k5, hC, hbm⟩ := T.cls
  have hcl : clsIn K C = some { name := nm, bases := bs, mro := .ref C :: bm, ns := N, qualname := q, hasDict := true, slotNames := sn, subclasses := sub, abstract := ab, collection := col, hasDel := false } := by unfold clsIn; rw [hC] <;> rfl
  obtain ⟨cl, cld, csl, hcc⟩ := T.cell
  obtain ⟨ccl, cdd, vs, ccs, tf, hcode, hvs⟩ := T.code
  obtain ⟨mb, hnb, hmb⟩ := hb
  refine ks_codeAny_call_defAt (binds := [("self", .ref x), ("line", v)]) hroom (X _ _ ho) rfl hlim (codeRec_of X hcd) rfl (BindsTo.of_eq (by first | rfl | with_unfolding_all rfl)) (show ∀ x ∈ iS.names, x.2 ≠ .cell by decide) (locs (by first | rfl | with_unfolding_all rfl)) (fun h₀ hns k₀ => ?_)
  have hxL : s.heap.objs.size ≠ x := Nat.ne_of_gt (Heap.lt_size hx)
  have X₀ : K.In h₀ := X.keeps k₀
  have hx₀ := k₀ _ _ hx
  refine ks_wpAt_execs_cons ?_
  refine ks_wpAt_Expr_any ?_
  refine ks_wpAt_MethodCall ?_
  refine ks_wpAt_super_base (env := _) rfl rfl rfl rfl (X₀ _ _ ho) rfl rfl rfl (X₀ _ _ hcode) rfl hvs (by first | exact beq_self_eq_true _ | simp) T.top ?_
  refine ks_loadName_global rfl rfl (loadGlobal_builtin (G.keeps k₀) (mg_none_of X G T.noS) (hnb.keeps k₀) ((hmb _ (by decide)).trans (by first | boot_by_name | rfl | kernel_rfl)) ⟨rfl, ?_⟩)
  refine wpAny_loadName_free rfl rfl rfl ⟨_, X₀ _ _ hcc, rfl⟩ ?_
  refine wpAny_loadName_local rfl rfl hns (by first | rfl | kernel_rfl) ?_
  refine ks_wpAny_isType_cls (X₀ _ _ hC) rfl ⟨rfl, ?_⟩
  refine ks_wpAny_call_super (X₀ _ _ hC) rfl hx₀ rfl (fun c e => by cases e) (looks_mroIn X₀ T.sub) (fun h₁ hso k₁ => ?_)
  have X₁ : K.In h₁ := X₀.keeps k₁
  have I₁ : InstAt h₁ x (excO C t0) C none := ⟨k₁ _ _ hx₀, rfl, rfl, trivial⟩
  have hup : alongIn K "__init__" (((Value.ref C :: bm).dropWhile (· != .ref C)).drop 1) = some (some (.builtin "ValueError.__init__")) := by
    have z := T.up
    unfold ks_superIn at z
    rw [hcl] at z
    exact z
  refine kxs_getMethod kxs_ValueError hso (looks_opaque X₁ T.op) (l₀ := .ref C :: bm) (fun A Q E s k q => wpAny_bind ((looks_clsIn X₁ hcl) A _ E s k (wpAny_pure q))) rfl X₁ hup (I₁.type.andThen (looks_subIn X₁ T.veC)) (ks_ne X₁ I₁ hcl) (by decide) ?_
  have k₂ : ∀ b o, h₁.get? b = some o → (h₁.push (kxs_mw "ValueError.__init__" x)).get? b = some o := fun b o e => Heap.get?_push_of_some _ e
  have hu : (h₁.push (kxs_mw "ValueError.__init__" x)).get? h₁.objs.size = some (kxs_mw "ValueError.__init__" x) := Heap.get?_push_at rfl rfl
  refine kxs_callWith (i := "ValueError.__init__") (x := x) (by first | rfl | with_unfolding_all rfl) ?_
  refine evalArgs_plain ?_
  refine spliced_more (wpAny_Constant_str ?_)
  refine spliced_none ⟨hu, ?_⟩
  have X₂ := X₁.keeps k₂
  refine mw_call T X₂ hu (k₂ _ _ (k₁ _ _ hx₀)) (one_size _) (fun h₃ t1 k₃ hx₃ => ?_)
  have X₃ : K.In h₃ := fun a o e => k₃ a o (fun z => by rw [z, hnx] at e; cases e) (X₂ a o e)
  have hns₃ := ((hns.keeps k₁).keeps k₂).at (fun o e => k₃ _ o hxL e)
  have kk : ∀ b o, b ≠ x → s.heap.get? b = some o → h₃.get? b = some o := fun b o hb e => k₃ b o hb (k₂ _ _ (k₁ _ _ (k₀ _ _ e)))
  refine wpAt_of_wpAny ?_
  refine wpAny_execs_cons (plainObj_wpAny_Assign_Attribute ?_)
  refine ldK (v := v) rfl rfl hns₃ (by first | rfl | kernel_rfl) (ldK (v := .ref x) rfl rfl hns₃ (by first | rfl | kernel_rfl) ?_)
  refine set_plain X₃ (ox := excO C t1) (od := none) ⟨hx₃, rfl, rfl, trivial⟩ T.sa ?_
  refine exc_osa X₃ hx₃ hcl (show refsVE (.ref C :: bm) = true from hbm) rfl T.noN (fun h₄ tk₄ dx k₄ dn dne hx₄ hn₄ => ?_)
  show wpAny _ _ (execs _ _) _ _ _
  have z0 : s.heap.objs.size ≤ h₃.objs.size := Nat.le_of_lt hns₃.lt
  exact wpAny_execs_nil (hq h₄ tk₄ dx t1 ⟨fun b o hb e => k₄ b o hb (kk b o hb e), hx₄, Nat.le_trans z0 dn, dne, hn₄⟩)
/-- a made InvalidText -/
structure OwnMade (h h' : Heap) (e C d : Addr) (v : Value) : Prop where
  keep : ∀ b o, h.get? b = some o → h'.get? b = some o
  new : h.objs.size ≤ e
  obj : ∃ oe vs, h'.get? e = some oe ∧ oe.cls = .ref C ∧ oe.dict = some d ∧ oe.data = .fields vs ∧ vs[1]? = some .none
  dbig : h.objs.size ≤ d
  dne : d ≠ e
  ns : h'.Ns1 d (fun y => if y = "line" then some v else none)
theorem err_made {s : Shared} (T : ErrTxt prog K mg C fI cc cda) {v : Value} (X : K.In s.heap) (G : s.heap.Ns mainGlobals mg) (hb : ∃ mb, s.heap.Ns builtinsNs mb ∧ ∀ x : PySem.Str, x ≠ "__name__" → mb x = bootBuiltins x)
    (hlim : s.heap.NoLimit) (hroom : A.depth + 1 < recursionLimit)
    (hq : ∀ h' tk e d, OwnMade s.heap h' e C d v → R (.ok (.ret (.ref e))) { s with heap := h', toks := tk }) :
    codeAny (model prog w) A (.call (.ref C) ⟨[v], []⟩) R s := by
  obtain ⟨nm, q, N, bs, bm, sn, sub, ab, col, dd, k0, k1, k2, k3, k5, hC, hbm⟩ := T.cls
  obtain ⟨hp, g, dr, tk, os⟩ := s
  have k : ∀ b o, hp.get? b = some o → ((hp.push (kdv_tup [v])).push (excO C hp.objs.size)).get? b = some o := fun b o e => Heap.get?_push_of_some _ (Heap.get?_push_of_some _ e)
  have hget : ((hp.push (kdv_tup [v])).push (excO C hp.objs.size)).get? (hp.objs.size + 1) = some (excO C hp.objs.size) := by heap_get
  have hnx : K.lookup (hp.objs.size + 1) = none := by
    cases e : K.lookup (hp.objs.size + 1) with
    | none => rfl
    | some o =>
      have z : hp.get? (hp.objs.size + 1) = some o := X _ _ e
      exact absurd (Nat.lt_of_succ_lt (Heap.lt_size z)) (Nat.lt_irrefl _)
  obtain ⟨mb, hnb, hmb⟩ := hb
  refine call_own F.excBase_ValueError (fun X => refsVE_contains X bm hbm) (X _ _ hC) (looks_findIn X T.iC) (fun self => bind_fn X self T.tC) (one_size v) ?_
  refine err_init (s := ⟨(hp.push (kdv_tup [v])).push (excO C hp.objs.size), g, dr, tk, os⟩) T (X.keeps k) (G.keeps k) ⟨mb, hnb.keeps k, hmb⟩ (hlim.keeps k) hget hnx ?_ fun h' tk' dx t1 ⟨k', hx, dn, dne, hns⟩ => ?_
  · show A.depth + 1 < recursionLimit
    exact hroom
  · have old : ∀ b o, hp.get? b = some o → h'.get? b = some o := fun b o e => k' b o (Nat.ne_of_lt (Nat.lt_succ_of_lt (Heap.lt_size e))) (k b o e)
    have z : hp.objs.size + 1 + 1 ≤ dx := by
      first
        | (simpa only [Heap.size_push] using dn)
        | exact dn
        | (have q := dn; rw [Heap.size_push, Heap.size_push] at q; exact q)
    exact ⟨rfl, hq h' tk' (hp.objs.size + 1) dx ⟨old, Nat.le_succ _, ⟨_, _, hx, rfl, rfl, rfl, rfl⟩, Nat.le_trans (Nat.le_trans (Nat.le_succ _) (Nat.le_succ _)) z, dne, hns⟩⟩
end
end TxE
end PySem
namespace L2
open PySem PySem.Spec PyProof.Rows
theorem relO_line {v : V} {v' : Value} (r : RelV v v') (f : PySem.Str) : RelO (List.lookup f [(("line" : PySem.Str), v)]) (if f = "line" then some v' else none) := by
  by_cases hw : f = "line"
  · subst hw
    rw [if_pos rfl]
    have q : List.lookup ("line" : PySem.Str) [(("line" : PySem.Str), v)] = some v := by simp [List.lookup]
    rw [q]
    exact r
  · rw [if_neg hw]
    have qw : (f == ("line" : PySem.Str)) = false := by simpa using hw
    have q2 : List.lookup f [(("line" : PySem.Str), v)] = none := by simp [List.lookup, qw]
    rw [q2]
    trivial
section
variable {X : Cx} {C fI cc cda : Addr}
/-- InvalidText(e) -/
def tMkErr (C : Addr) (ta : TA) : St → Hp → XK → Prop := fun σ H Q => ta σ H fun vs H1 => ∃ v, vs = [v] ∧ ∀ d, H1 d = none → Q (.ref C) (some d) (upd H1 d (.xd [(("line" : PySem.Str), v)]))
theorem pmk_err {a : Expr} {ta : TA} {p pos : Pos} {k : Nat} (T : PySem.TxE.ErrTxt X.prog X.K X.mg C fI cc cda) (hr : Room k X.A) (ha : PA X [a] ta) (hg : Gl X "InvalidText" := by rfl)
    (he : starEach (a :: []) X.env = (false, eval a X.env) :: starEach [] X.env := by rfl) (hpl : (backTo pos (starEach [] X.env)).any (·.1) = false := by rfl) :
    PMk X (.Call (.Name "InvalidText" p) [a] [] pos) (tMkErr C ta) := by
  intro pins s σ H Q I h
  refine wpAny_Call_Name_kw (ld_glob I hg T.gC ?_)
  refine PySem.W.callWith_K (h₀ := X.base) I.ok.mod.kin T.kC (thn (ha.run pos pins s σ H _ I h) fun us s1 hh => ?_) he hpl
  obtain ⟨vs, H1, I1, r1, v, ev, q1⟩ := hh
  subst ev
  refine ⟨I1.kIn, ?_⟩
  cases r1 with
  | cons rv rn =>
    rename_i v' us'
    cases rn
    show wpAny _ _ (call (.ref C) [v']) _ _ _
    have hlim := I1.nolimit
    have hG := I1.mod.glob.keeps I1.bk
    obtain ⟨mb, hb1, hb2⟩ := I1.mod.blt
    have hB := hb1.keeps I1.bk
    obtain ⟨hp, g, dr, tk, os⟩ := s1
    refine wpAny_call (PySem.TxE.err_made T I1.kIn hG ⟨mb, hB, hb2⟩ hlim (by have := hr.dp; omega) fun h' tk' e d M => ?_)
    show MkP X pins σ Q (.ref e) ⟨h', g, dr, tk', os⟩
    obtain ⟨oe, fv, hoe, hc, hd, hdat, h1⟩ := M.obj
    have hns := M.ns
    obtain ⟨G', g1, g2⟩ := restrict h' fun b => decide (b ≠ e)
    have gk : ∀ b, b ≠ e → G'.get? b = h'.get? b := fun b hb => g1 b (decide_eq_true hb)
    have ge : G'.get? e = none := g2 e (by simp)
    have old : ∀ b o, hp.get? b = some o → G'.get? b = some o := fun b o q => (gk b (Nat.ne_of_lt (Nat.lt_of_lt_of_le (Heap.lt_size q) M.new))).trans (M.keep b o q)
    have ob : ObjOk X.prog X.w (upd H1 d (.xd [(("line" : PySem.Str), v)])) G' d (.xd [(("line" : PySem.Str), v)]) :=
      ⟨_, hns.at (fun o q => (gk d M.dne).trans q), fun f => relO_line rv f⟩
    have J : Inv X pins σ (upd H1 d (.xd [(("line" : PySem.Str), v)])) ⟨G', g, dr, tk', os⟩ := I1.laid (t' := tk') old M.dbig ob
    refine ⟨e, oe, fv, ⟨G', g, dr, tk', os⟩, _, .ref C, some d, rfl, J, fun b o q => ?_, ge, hoe, ⟨hc, hd⟩, hdat, h1, ?_, rfl, I1.bare, raises_own T.exC T.tyC, q1 d (I1.hok.fresh M.dbig)⟩
    · by_cases hb : b = e
      · have q' : G'.get? b = some o := q
        rw [hb, ge] at q'; cases q'
      · exact (gk b hb).symm.trans q
    · rw [upd_ne (Ne.symm M.dne)]
      exact I1.hok.fresh M.new
/-- e.line, e the exception that the suite holds (at a; its class cls, its dict d) -/
def tLine (C : Addr) (a : Addr) (cls : Value) (d : Option Addr) (te : TE) : TE := fun σ H Q => te σ H fun x H1 => x = .ref a ∧ cls = .ref C ∧ ∃ (dd : Addr) (v : V), d = some dd ∧ H1 dd = some (.xd [(("line" : PySem.Str), v)]) ∧ Q v H1
theorem pe_line {a : Addr} {oe : Obj} {cls : Value} {d : Option Addr} {pn : List (Addr × Obj)} {e : Expr} {te : TE} {pos : Pos} (T : PySem.TxE.ErrTxt X.prog X.K X.mg C fI cc cda) (hz : Zc cls d oe) (hf : ∃ vs, oe.data = .fields vs) (he : PE (X.suite a ((a, oe) :: pn)) e te)
    (hb : attributeBase e "line" X.env (eval e X.env) = eval e X.env := by rfl) :
    PE (X.suite a ((a, oe) :: pn)) (.Attribute e "line" pos) (tLine C a cls d te) := by
  refine ⟨fun pins s σ H Q I h => ?_⟩
  refine attr_of hb (thn (he.run pins s σ H _ I h) fun u s1 hh => ?_)
  obtain ⟨x, H1, I1, rx, ex, ec, dd, v, ed, ea, q⟩ := hh
  subst ex
  obtain rfl : u = Value.ref a := rx
  subst ec
  subst ed
  obtain ⟨ha, _⟩ := I1.pin (a, oe) (List.mem_append_left _ List.mem_cons_self)
  obtain ⟨vs, hd⟩ := hf
  have hx : ObjOk X.prog X.w H1 s1.heap dd (.xd [(("line" : PySem.Str), v)]) := I1.hok dd _ ea
  obtain ⟨mA, hns, hr⟩ := hx
  obtain ⟨od, ho, hl⟩ := lookIn_ns hns
  have l : List.lookup ("line" : PySem.Str) [(("line" : PySem.Str), v)] = some v := by simp [List.lookup]
  obtain ⟨u, hu, ru⟩ := RelO.some_of (v := v) (o := mA "line") (by rw [← l]; exact hr "line")
  have J : PySem.W.InstAt s1.heap a oe C (some od) := ⟨ha, hz.1, by unfold PySem.W.notCls; rw [hd] <;> rfl, by rw [hz.2]; exact ho⟩
  exact HandSPX.exc_get I1.kIn J T.ga T.gg T.exC (PySem.W.findObj_own T.hdC T.noN rfl (by rw [hl, hu])) (handed_of ru) ⟨v, H1, I1.tok _, ru, q⟩
end
end L2
set_option Elab.async false
set_option linter.all false
set_option maxRecDepth 100000
set_option maxHeartbeats 2000000
/-! list(zip(a, b)), a and b lists of one length, a's items texts -/
namespace LZ
open PySem PySem.W PySem.Calls PyProof.Rows
structure Apt (z TI TO i1 i2 l1 l2 S : Addr) : Prop where
  D : ZipApart z TI TO i1 i2 l1 l2
  z : z < S
  TI : TI < S
  TO : TO < S
  i1 : i1 < S
  i2 : i2 < S
  l1 : l1 < S
  l2 : l2 < S
structure St (z TI TO i1 i2 l1 l2 S : Addr) (xs ys : Array Value) (i : Nat) (h : Heap) : Prop where
  pr : IsPair h TI (.ref i1) (.ref i2)
  a1 : h.IsListIter i1 l1 i
  a2 : h.IsListIter i2 l2 i
  b1 : h.IsList l1 xs
  b2 : h.IsList l2 ys
  zz : (IsZip h z TI TO .none ∧ ∃ a b, IsPair h TO a b) ∨ ∃ T f oT, IsZipHeld h z TI TO T f ∧ h.get? T = some oT ∧ S < T
section
variable {prog : Program} {w : World} {A : Around} {E : Value → Shared → Prop} {s : Shared} {z TI TO i1 i2 l1 l2 S : Addr} {xs ys : Array Value}
theorem far {S a c : Addr} (h1 : a < S) (h2 : S ≤ c) : c ≠ a := Nat.ne_of_gt (Nat.lt_of_lt_of_le h1 h2)
theorem St.at {h h' : Heap} {i : Nat} (P : Apt z TI TO i1 i2 l1 l2 S) (st : St z TI TO i1 i2 l1 l2 S xs ys i h) (k : ∀ b o, b ≠ S → h.get? b = some o → h'.get? b = some o) : St z TI TO i1 i2 l1 l2 S xs ys i h' := by
  have hz := P.z; have hTI := P.TI; have hTO := P.TO; have h1 := P.i1; have h2 := P.i2; have h3 := P.l1; have h4 := P.l2
  refine ⟨k TI _ (Nat.ne_of_lt hTI) st.pr, st.a1.at fun o e => k i1 o (Nat.ne_of_lt h1) e, st.a2.at fun o e => k i2 o (Nat.ne_of_lt h2) e, st.b1.at fun o e => k l1 o (Nat.ne_of_lt h3) e, st.b2.at fun o e => k l2 o (Nat.ne_of_lt h4) e, ?_⟩
  rcases st.zz with ⟨a, x, y, b⟩ | ⟨T, f, oT, a, b, c⟩
  · exact .inl ⟨k z _ (Nat.ne_of_lt hz) a, x, y, k TO _ (Nat.ne_of_lt hTO) b⟩
  · exact .inr ⟨T, f, oT, k z _ (Nat.ne_of_lt hz) a, k T _ (Nat.ne_of_gt c) b, c⟩
theorem item {i : Nat} {x y : Value} {Q : Option Value → Shared → Prop} (P : Apt z TI TO i1 i2 l1 l2 S) (st : St z TI TO i1 i2 l1 l2 S xs ys i s.heap) (hS : S < s.heap.objs.size) (hx : xs[i]? = some x) (hy : ys[i]? = some y)
    (hQ : ∀ h', St z TI TO i1 i2 l1 l2 S xs ys (i + 1) h' → IsPair h' s.heap.objs.size x y → h'.objs.size = s.heap.objs.size + 1 → (∀ c o, S ≤ c → s.heap.get? c = some o → h'.get? c = some o) → (∀ c o, c ≠ z → c ≠ TO → c ≠ i1 → c ≠ i2 → s.heap.get? c = some o → h'.get? c = some o) → Q (some (.ref s.heap.objs.size)) { s with heap := h' }) :
    wpAny (model prog w) A (pyNext (.ref z)) Q E s := by
  have pz := P.z; have pTO := P.TO; have p1 := P.i1; have p2 := P.i2
  have D := P.D
  rcases st.zz with ⟨hz, a, b, hTO⟩ | ⟨T, f, oT, hz, hT, hST⟩
  · refine wpAny_pyNext_zip_item D hz st.pr hTO st.a1 st.a2 st.b1 st.b2 hx hy fun h' a1 a2 a3 a4 a5 a6 hk => ?_
    exact hQ h' ⟨hk _ _ D.TIz D.TITO D.TIi1 D.TIi2 st.pr, a3, a4, st.b1.at fun o e => hk _ o D.l1z D.l1TO D.l1i1 D.l1i2 e, st.b2.at fun o e => hk _ o D.l2z D.l2TO D.l2i1 D.l2i2 e,
      .inr ⟨s.heap.objs.size, false, _, a1, a5, hS⟩⟩ a5 a6 (fun c o hc e => hk c o (far pz hc) (far pTO hc) (far p1 hc) (far p2 hc) e) (fun c o c1 c2 c3 c4 e => hk c o c1 c2 c3 c4 e)
  · refine wpAny_pyNext_zip_item_held D hz hT st.pr st.a1 st.a2 st.b1 st.b2 hx hy fun h' a1 a3 a4 a5 a6 hk => ?_
    exact hQ h' ⟨hk _ _ D.TIz D.TIi1 D.TIi2 st.pr, a3, a4, st.b1.at fun o e => hk _ o D.l1z D.l1i1 D.l1i2 e, st.b2.at fun o e => hk _ o D.l2z D.l2i1 D.l2i2 e,
      .inr ⟨T, true, oT, a1, hk T _ (far pz (Nat.le_of_lt hST)) (far p1 (Nat.le_of_lt hST)) (far p2 (Nat.le_of_lt hST)) hT, hST⟩⟩ a5 a6 (fun c o hc e => hk c o (far pz hc) (far p1 hc) (far p2 hc) e) (fun c o c1 c2 c3 c4 e => hk c o c1 c3 c4 e)
theorem done {i : Nat} {Q : Option Value → Shared → Prop} (hh : A.handled = none) (P : Apt z TI TO i1 i2 l1 l2 S) (st : St z TI TO i1 i2 l1 l2 S xs ys i s.heap) (hx : xs[i]? = none)
    (hQ : ∀ h', (∀ c o, S ≤ c → s.heap.get? c = some o → h'.get? c = some o) → (∀ c o, c ≠ z → c ≠ TO → c ≠ i1 → c ≠ i2 → s.heap.get? c = some o → h'.get? c = some o) → Q none { s with heap := h' }) :
    wpAny (model prog w) A (pyNext (.ref z)) Q E s := by
  have pz := P.z; have pTO := P.TO; have p1 := P.i1; have p2 := P.i2
  have D := P.D
  rcases st.zz with ⟨hz, a, b, hTO⟩ | ⟨T, f, oT, hz, hT, hST⟩
  · exact wpAny_pyNext_zip_end hh D hz st.pr hTO st.a1 st.a2 st.b1 st.b2 (.inl hx) fun h' hk => hQ h' (fun c o hc e => hk c o (far pz hc) (far pTO hc) (far p1 hc) (far p2 hc) e) (fun c o c1 c2 c3 c4 e => hk c o c1 c2 c3 c4 e)
  · exact wpAny_pyNext_zip_end_held hh D hz hT st.pr st.a1 st.a2 st.b1 st.b2 (.inl hx) fun h' hk => hQ h' (fun c o hc e => hk c o (far pz hc) (far p1 hc) (far p2 hc) e) (fun c o c1 c2 c3 c4 e => hk c o c1 c3 c4 e)
/-- the addresses as hold the pairs, in order -/
structure G (xs ys : Array Value) (S : Addr) (h : Heap) (as : List Addr) : Prop where
  rise : as.Pairwise (· < ·)
  above : ∀ a ∈ as, S < a
  there : ∀ a ∈ as, a < h.objs.size
  pairs : ∀ (j : Nat) (a : Addr), as[j]? = some a → ∃ x y, xs[j]? = some x ∧ ys[j]? = some y ∧ h.get? a = some { cls := .type "tuple", data := .seq #[x, y] }
end
section
variable {prog : Program} {w : World} {A : Around} {s : Shared} {R : Result → Shared → Prop} {z TI TO i1 i2 l1 l2 S : Addr} {xs ys : Array Value}
theorem loop (hh : A.handled = none) (P : Apt z TI TO i1 i2 l1 l2 S) (hl : xs.size = ys.size) (hn : xs.size ≤ 1000000) (res : Value) {h₁ : Heap}
    (hR : ∀ h' tk acc c as, (∀ b o, b ≠ S → b ≠ z → b ≠ TO → b ≠ i1 → b ≠ i2 → h₁.get? b = some o → h'.get? b = some o) → h'.get? S = some { cls := .type "list", dict := none, data := .seq acc c, slots := #[] } → as.length = xs.size → G xs ys S h' as →
      acc.toList = as.map Value.ref → R (.ok (.ret res)) { s with heap := h', toks := tk }) :
    ∀ (k i : Nat) (h : Heap) (tk c : Nat) (acc : Array Value) (as : List Addr), xs.size - i = k → i ≤ xs.size → St z TI TO i1 i2 l1 l2 S xs ys i h → (∀ b o, b ≠ S → b ≠ z → b ≠ TO → b ≠ i1 → b ≠ i2 → h₁.get? b = some o → h.get? b = some o) →
      h.get? S = some { cls := .type "list", dict := none, data := .seq acc c, slots := #[] } → acc.toList = as.map Value.ref → as.length = i → G xs ys S h as →
      codeAny (model prog w) A (.builtin "list.extend.loop" ⟨[.ref S, .ref z, res], []⟩) R { s with heap := h, toks := tk } := by
  intro k
  induction k with
  | zero =>
    intro i h tk c acc as hk hi st hkeep hS hacc hal hG
    refine codeAny_builtin PySem.F.entry_extend_loop ?_
    rw [Around.under_plainId PySem.F.plain_extend_loop _]
    show wpAny _ A.in1 (pyNext (.ref z) >>= _) _ _ _
    refine wpAny_bind (done (s := { s with heap := h, toks := tk }) (A := A.in1) hh P st (by simp; omega) fun h' he hf => ?_)
    refine wpAny_pure (hR h' tk acc c as (fun b o n1 n2 n3 n4 n5 e => hf b o n2 n3 n4 n5 (hkeep b o n1 n2 n3 n4 n5 e)) (he S _ (Nat.le_refl _) hS) (by omega) ⟨hG.rise, hG.above, fun a ha => ?_, fun j a hj => ?_⟩ hacc)
    · obtain ⟨j, hj⟩ := List.mem_iff_getElem?.mp ha
      obtain ⟨x, y, _, _, e⟩ := hG.pairs j a hj
      exact Heap.lt_size (he a _ (Nat.le_of_lt (hG.above a ha)) e)
    · obtain ⟨x, y, e1, e2, e3⟩ := hG.pairs j a hj
      exact ⟨x, y, e1, e2, he a _ (Nat.le_of_lt (hG.above a (List.mem_of_getElem? hj))) e3⟩
  | succ k ih =>
    intro i h tk c acc as hk hi st hkeep hS hacc hal hG
    have hlt : i < xs.size := by omega
    have hx : xs[i]? = some xs[i] := Array.getElem?_eq_getElem hlt
    have hlt2 : i < ys.size := by omega
    have hy : ys[i]? = some ys[i] := Array.getElem?_eq_getElem hlt2
    have hsz : acc.size = i := by rw [← Array.length_toList, hacc, List.length_map, hal]
    have hSl : S < h.objs.size := Heap.lt_size hS
    refine codeAny_builtin PySem.F.entry_extend_loop ?_
    rw [Around.under_plainId PySem.F.plain_extend_loop _]
    show wpAny _ A.in1 (pyNext (.ref z) >>= _) _ _ _
    refine wpAny_bind (item (s := { s with heap := h, toks := tk }) P st hSl hx hy fun h' st' ht hz hkp hkf => ?_)
    dsimp only at ht hz hkp hkf ⊢
    have hS' := hkp S _ (Nat.le_refl _) hS
    have up : ∀ b o, b ≠ S → h'.get? b = some o → (h'.update S (Obj.mapSeq (·.push (Value.ref h.objs.size)))).get? b = some o := fun b o hb e => (Heap.get?_update_other _ _ (Ne.symm hb)).trans e
    show wpAny _ A.in1 (updateSeq S (·.push (Value.ref h.objs.size)) >>= _) _ _ _
    refine wpAny_bind ?_
    refine wpAny_updateSeq hS' rfl (wpAny_pure ⟨plainId_quiet PySem.F.plain_extend_loop _, ih (i + 1) _ tk _ (acc.push (Value.ref h.objs.size)) (as ++ [h.objs.size]) (by omega) hlt (st'.at P up)
      (fun b o n1 n2 n3 n4 n5 e => up b o n1 (hkf b o n2 n3 n4 n5 (hkeep b o n1 n2 n3 n4 n5 e))) (Heap.get?_update_self _ hS' rfl) (by rw [Array.toList_push, hacc, List.map_append]; rfl) (by rw [List.length_append, hal]; rfl) ⟨?_, ?_, ?_, ?_⟩⟩) (by rw [hsz, sizeLine_eq]; omega) (by show (acc.push (Value.ref h.objs.size)).size ≤ sizeLine + 1; rw [Array.size_push, hsz, sizeLine_eq]; omega)
    · refine List.pairwise_append.mpr ⟨hG.rise, List.pairwise_singleton _ _, fun a ha b hb => ?_⟩
      rw [List.mem_singleton.mp hb]
      exact hG.there a ha
    · intro a ha
      rcases List.mem_append.mp ha with ha | ha
      · exact hG.above a ha
      · rw [List.mem_singleton.mp ha]; exact hSl
    · intro a ha
      rw [Heap.size_update, hz]
      rcases List.mem_append.mp ha with ha | ha
      · exact Nat.lt_succ_of_lt (hG.there a ha)
      · rw [List.mem_singleton.mp ha]; exact Nat.lt_succ_self _
    · intro j b hj
      rcases Nat.lt_trichotomy j as.length with h1 | h1 | h1
      · rw [List.getElem?_append_left h1] at hj
        obtain ⟨x, y, e1, e2, e3⟩ := hG.pairs j b hj
        have hb := hG.above b (List.mem_of_getElem? hj)
        exact ⟨x, y, e1, e2, up b _ (Nat.ne_of_gt hb) (hkp b _ (Nat.le_of_lt hb) e3)⟩
      · subst h1
        have hb : h.objs.size = b := by simpa using hj
        subst hb
        exact ⟨_, _, by rw [hal]; exact hx, by rw [hal]; exact hy, up _ _ (Nat.ne_of_gt hSl) ht⟩
      · have hnone : (as ++ [h.objs.size])[j]? = none := List.getElem?_eq_none (by rw [List.length_append, List.length_singleton]; omega)
        rw [hnone] at hj; cases hj
end
theorem no_len : typeLookup (.type "zip") "__len__" = pure none := by rw [typeLookup_type, builtinLookup_eq_fast]; kernel_rfl
theorem no_hint : typeLookup (.type "zip") "__length_hint__" = pure none := by rw [typeLookup_type, builtinLookup_eq_fast]; kernel_rfl
section
variable {prog : Program} {w : World} {A : Around} {E : Value → Shared → Prop} {s : Shared} {z TI TO i1 i2 l1 l2 S : Addr} {xs ys : Array Value}
theorem hint (hT : s.TypeIs (.ref z) "zip") {Q : Bool → Shared → Prop} (h : ∀ b, Q b s) : wpAny (model prog w) A (Builtin.List.listLengthHint (.ref z)) Q E s := by
  unfold Builtin.List.listLengthHint
  refine wpAny_bind (wpAny_specialOf hT no_len ?_)
  show wpAny _ A (specialOf (Value.ref z) (PySem.Str.ofString "__length_hint__") >>= _) _ _ _
  refine wpAny_bind (wpAny_specialOf hT no_hint ?_)
  exact wpAny_pure (h _)
theorem extend {R : Result → Shared → Prop} {a0 b0 : Value} (hh : A.handled = none) (P : Apt z TI TO i1 i2 l1 l2 S) (hl : xs.size = ys.size) (hn : xs.size ≤ 1000000) (hz : IsZip s.heap z TI TO .none) (hTI : IsPair s.heap TI (.ref i1) (.ref i2)) (hTO : IsPair s.heap TO a0 b0)
    (h1 : s.heap.IsListIter i1 l1 0) (h2 : s.heap.IsListIter i2 l2 0) (hl1 : s.heap.IsList l1 xs) (hl2 : s.heap.IsList l2 ys) (res : Value) (c₀ : Nat) (hS : s.heap.get? S = some { cls := .type "list", data := .seq #[] c₀ })
    (hR : ∀ h' tk acc c as, (∀ b o, b ≠ S → b ≠ z → b ≠ TO → b ≠ i1 → b ≠ i2 → s.heap.get? b = some o → h'.get? b = some o) → h'.get? S = some { cls := .type "list", dict := none, data := .seq acc c, slots := #[] } → as.length = xs.size → G xs ys S h' as →
      acc.toList = as.map Value.ref → R (.ok (.ret res)) { s with heap := h', toks := tk }) :
    wpAny (model prog w) A.in1 (Builtin.List.listExtendWith (.ref S) (.ref z) res)
      (fun fin s' => match fin with | .done f => R (.ok f) s' | .again c' => c'.quiet = true ∧ codeAny (model prog w) A c' R s') (fun e s' => R (.error e) s') s := by
  have hT : s.TypeIs (.ref z) "zip" := ⟨_, hz, rfl⟩
  have key : ∀ (h : Heap) (c₁ tk : Nat), (∀ b o, b ≠ S → s.heap.get? b = some o → h.get? b = some o) → h.get? S = some { cls := .type "list", data := .seq #[] c₁ } → codeAny (model prog w) A (.builtin "list.extend.loop" ⟨[.ref S, .ref z, res], []⟩) R { s with heap := h, toks := tk } := by
    intro h c₁ tk hk hS₁
    have st : St z TI TO i1 i2 l1 l2 S xs ys 0 s.heap := ⟨hTI, h1, h2, hl1, hl2, .inl ⟨hz, _, _, hTO⟩⟩
    exact loop (s := s) (h₁ := s.heap) hh P hl hn res hR xs.size 0 h tk c₁ #[] [] (Nat.sub_zero _) (Nat.zero_le _) (st.at P hk) (fun b o n1 _ _ _ _ e => hk b o n1 e) hS₁ rfl rfl
      ⟨List.Pairwise.nil, (fun _ ha => nomatch ha), (fun _ ha => nomatch ha), (fun j a hj => by simp at hj)⟩
  unfold Builtin.List.listExtendWith
  refine wpAny_bind (wpAny_typeOf (T := "zip") hT ?_)
  have e1 : Builtin.List.listSameRef (.ref S) (.ref z) = false := by simp [Builtin.List.listSameRef, Nat.ne_of_gt P.z]
  have e2 : (Value.type "zip" == Value.type "list") = false := by decide
  have e3 : (Value.type "zip" == Value.type "tuple") = false := by decide
  simp only [e1, e2, e3, Bool.or_false, Bool.false_eq_true, if_false]
  refine wpAny_bind (wpAny_pyIter_zip hz ?_)
  refine wpAny_bind (wpAny_holding (hint hT fun hb => ?_))
  refine wpAny_ite_split (fun _ => ?_) (fun _ => wpAny_pure ⟨plainId_quiet PySem.F.plain_extend_loop _, key _ c₀ _ (fun b o _ e => e) hS⟩)
  refine wpAny_bind (wpAny_rule ?_)
  refine wpAny_bind ?_
  show wpAny _ _ (updateSeq S (·.push .none) >>= fun _ => updateSeq S (·.pop)) _ _ _
  refine wpAny_bind (wpAny_updateSeq hS rfl ?_)
  have hS₂ := Heap.get?_update_self (Obj.mapSeq (·.push Value.none)) hS rfl
  refine wpAny_updateSeq (hz := by seq_fits) hS₂ rfl ?_
  have hS₃ := Heap.get?_update_self (Obj.mapSeq (·.pop)) hS₂ rfl
  refine wpAny_pure ⟨plainId_quiet PySem.F.plain_extend_loop _, key _ _ _ (fun b o hb e => ?_) hS₃⟩
  exact (Heap.get?_update_other _ _ (Ne.symm hb)).trans ((Heap.get?_update_other _ _ (Ne.symm hb)).trans e)
theorem init {R : Result → Shared → Prop} {a0 b0 : Value} (hh : A.handled = none) (P : Apt z TI TO i1 i2 l1 l2 S) (hl : xs.size = ys.size) (hn : xs.size ≤ 1000000) (hz : IsZip s.heap z TI TO .none) (hTI : IsPair s.heap TI (.ref i1) (.ref i2)) (hTO : IsPair s.heap TO a0 b0)
    (h1 : s.heap.IsListIter i1 l1 0) (h2 : s.heap.IsListIter i2 l2 0) (hl1 : s.heap.IsList l1 xs) (hl2 : s.heap.IsList l2 ys) (hS : s.heap.get? S = some { cls := .type "list", data := .seq #[] })
    (hR : ∀ h' tk acc c as, (∀ b o, b ≠ S → b ≠ z → b ≠ TO → b ≠ i1 → b ≠ i2 → s.heap.get? b = some o → h'.get? b = some o) → h'.get? S = some { cls := .type "list", dict := none, data := .seq acc c, slots := #[] } → as.length = xs.size → G xs ys S h' as →
      acc.toList = as.map Value.ref → R (.ok (.ret .none)) { s with heap := h', toks := tk }) :
    wpAny (model prog w) A.in1 (Builtin.«list.__init__» ⟨[.ref S, .ref z], []⟩)
      (fun fin s' => match fin with | .done f => R (.ok f) s' | .again c' => c'.quiet = true ∧ codeAny (model prog w) A c' R s') (fun e s' => R (.error e) s') s := by
  show wpAny _ _ (do let old ← Builtin.List.listItems (.ref S); Builtin.List.listUpdate (.ref S) (fun _ => #[]); letGo old.toList.reverse; Builtin.List.listExtendWith (.ref S) (.ref z) .none) _ _ s
  refine wpAny_bind ?_
  unfold Builtin.List.listItems
  refine wpAny_bind (wpAny_seqItems hS rfl (wpAny_pure ?_))
  show wpAny _ _ (updateSeq S (fun _ => #[]) >>= fun _ => letGo (#[] : Array Value).toList.reverse >>= fun _ => Builtin.List.listExtendWith (.ref S) (.ref z) .none) _ _ s
  refine wpAny_bind (wpAny_updateSeq hS rfl ?_)
  have hS₂ := Heap.get?_update_self (Obj.mapSeq (fun _ => (#[] : Array Value))) hS rfl
  have oth : ∀ b o, b ≠ S → s.heap.get? b = some o → (s.heap.update S (Obj.mapSeq (fun _ => (#[] : Array Value)))).get? b = some o :=
    fun b o hb e => (Heap.get?_update_other _ _ (Ne.symm hb)).trans e
  refine wpAny_bind (wpAny_letGo ?_)
  have nl : ∀ {a : Addr}, a < S → a ≠ S := fun h => Nat.ne_of_lt h
  refine extend hh P hl hn (oth _ _ (nl P.z) hz) (oth _ _ (nl P.TI) hTI) (oth _ _ (nl P.TO) hTO) (h1.at fun o e => oth _ o (nl P.i1) e) (h2.at fun o e => oth _ o (nl P.i2) e) (hl1.at fun o e => oth _ o (nl P.l1) e) (hl2.at fun o e => oth _ o (nl P.l2) e) .none _ hS₂ (fun h' tk acc c as hk hS' hl hG hacc => ?_)
  exact hR h' tk acc c as (fun b o n1 n2 n3 n4 n5 e => hk b o n1 n2 n3 n4 n5 (oth b o n1 e)) hS' hl hG hacc
theorem list_call {Q : Value → Shared → Prop} {a0 b0 : Value} (hh : A.handled = none) (D : Apt z TI TO i1 i2 l1 l2 s.heap.objs.size) (hl : xs.size = ys.size) (hn : xs.size ≤ 1000000) (hz : IsZip s.heap z TI TO .none) (hTI : IsPair s.heap TI (.ref i1) (.ref i2)) (hTO : IsPair s.heap TO a0 b0)
    (h1 : s.heap.IsListIter i1 l1 0) (h2 : s.heap.IsListIter i2 l2 0) (hl1 : s.heap.IsList l1 xs) (hl2 : s.heap.IsList l2 ys)
    (hQ : ∀ h' tk acc c as, (∀ b o, b ≠ z → b ≠ TO → b ≠ i1 → b ≠ i2 → s.heap.get? b = some o → h'.get? b = some o) → h'.get? s.heap.objs.size = some { cls := .type "list", dict := none, data := .seq acc c, slots := #[] } → as.length = xs.size → G xs ys s.heap.objs.size h' as →
      acc.toList = as.map Value.ref → Q (.ref s.heap.objs.size) { s with heap := h', toks := tk }) :
    wpAny (model prog w) A (call (.type "list") [.ref z]) Q E s := by
  refine callType_codes (Q₁ := fun obj s₁ => obj = .ref s.heap.objs.size ∧ s₁ = { s with heap := s.heap.push { cls := .type "list", data := .seq #[] } }) PySem.F.called_list (PySem.F.typeCall_list_1 _) PySem.F.entry_list_init
    (code_list_new _ ⟨rfl, rfl⟩) fun obj s₁ h₁ => ?_
  obtain ⟨rfl, rfl⟩ := h₁
  have hS : (s.heap.push { cls := .type "list", data := .seq #[] }).get? s.heap.objs.size = some { cls := .type "list", data := .seq #[] } := Heap.get?_push_size _ rfl
  have up : ∀ b o, s.heap.get? b = some o → (s.heap.push { cls := .type "list", data := .seq #[] }).get? b = some o := fun b o e => Heap.get?_push_of_some _ e
  refine ⟨⟨_, hS, rfl⟩, PySem.F.args_list_init_2 _ _, init (A := A.in1) hh D hl hn (up _ _ hz) (up _ _ hTI) (up _ _ hTO) (h1.at fun o e => up _ o e) (h2.at fun o e => up _ o e) (hl1.at fun o e => up _ o e) (hl2.at fun o e => up _ o e) hS (fun h' tk acc c as hk hS' hl hG hacc => ?_)⟩
  exact ⟨rfl, hQ h' tk acc c as (fun b o n2 n3 n4 n5 e => hk b o (Nat.ne_of_lt (Heap.lt_size e)) n2 n3 n4 n5 (up b o e)) hS' hl hG hacc⟩
end
end LZ
namespace LZ
open PySem PySem.Spec PyProof.Rows L2 DL
def tLstZip (K : PySem.W.Frag) (ta : TA) : TE := fun σ H Q => ta σ H fun vs H1 => ∃ (a b : Addr) (ws : List PySem.Str) (ys : List V), vs = [.ref a, .ref b] ∧ SqL K H1 a (ws.map V.str) ∧ SqL K H1 b ys ∧ ws.length = ys.length ∧ ws.length ≤ 100000 ∧
  ∀ (H' : Hp) (p : Addr) (ts : List Addr), Same H1 H' → H1 p = none → (∀ t ∈ ts, H1 t = none) → H' p = some (.lst (ts.map V.ref)) → Paired (fun (t : Addr) (q : PySem.Str × V) => H' t = some (.tup [.str q.1, q.2])) ts (ws.zip ys) → Q (.ref p) H'
def kvOf (q : PySem.Str × V) : Key × V := (Sum.inr q.1, q.2)
theorem paired_map {α β γ : Type} {F : α → γ → Prop} {f : β → γ} : ∀ {xs : List α} {ys : List β}, Paired F xs (ys.map f) → Paired (fun x y => F x (f y)) xs ys
  | _, [], h => by cases h; exact .nil
  | _, _ :: _, h => by cases h with
    | cons a b => exact .cons a (paired_map b)
theorem kv_zip : ∀ {ws : List PySem.Str} {ys : List V} {us vs : List Value}, Vals (ws.map V.str) us → Vals ys vs → ∃ ps : List (Key × Value), KV ((ws.zip ys).map kvOf) ps ∧ ps.length = (ws.zip ys).length ∧
    ∀ j x y, j < ws.length → us[j]? = some x → vs[j]? = some y → ∃ k, ps[j]? = some (k, y) ∧ keyIs k x = true
  | [], _, _, _, _, _ => ⟨[], .nil, rfl, fun j x y h => absurd h (Nat.not_lt_zero _)⟩
  | w :: ws, [], us, vs, h1, h2 => by
    cases h2
    exact ⟨[], .nil, rfl, fun j x y _ _ h => by simp at h⟩
  | w :: ws, y :: ys, us, vs, h1, h2 => by
    cases h1 with
    | @cons _ u _ us' a1 a2 =>
      cases h2 with
      | @cons _ v _ vs' b1 b2 =>
        obtain ⟨ps, e1, e2, e3⟩ := kv_zip a2 b2
        obtain ⟨t, rfl⟩ := a1
        refine ⟨(Sum.inr w, v) :: ps, .cons ⟨rfl, b1⟩ e1, by simp [e2], fun j x z hj hx hy => ?_⟩
        cases j with
        | zero =>
          simp at hx hy
          subst hx hy
          exact ⟨_, rfl, (show keyIs (Sum.inr w) (Value.str w t) = true from by simp [keyIs, Value.isStrOf])⟩
        | succ j =>
          obtain ⟨k, f1, f2⟩ := e3 j x z (by simpa using hj) (by simpa using hx) (by simpa using hy)
          exact ⟨k, by simpa using f1, f2⟩
section
variable {X : Cx}
theorem pe_listZip {e e2 : Expr} {ta : TA} {p p2 q2 pos : Pos} (hc : X.calm = true) (hg : Gl X "list") (hm : X.mg "list" = none) (hg2 : Gl X "zip") (hm2 : X.mg "zip" = none) (ha : PA X [e, e2] ta)
    (hs2 : starEach [e, e2] X.env = (false, eval e X.env) :: starEach [e2] X.env := by rfl) (hpl : (backTo q2 (starEach [e2] X.env)).any (·.1) = false := by rfl)
    (hs : starEach [.Call (.Name "zip" p2) [e, e2] [] q2] X.env = (false, eval (.Call (.Name "zip" p2) [e, e2] [] q2) X.env) :: starEach [] X.env := by rfl) :
    PE X (.Call (.Name "list" p) [.Call (.Name "zip" p2) [e, e2] [] q2] [] pos) (tLstZip X.K ta) := by
  refine ⟨fun pins s σ H Q I h => ?_⟩
  refine wpAny_Call_Name_kw (ld_blt I hg hm PyProof.Rows.boot_list ?_)
  refine PyProof.Rows.callWith_type1 ?_ hs rfl
  rw [hs]
  show wpAny _ _ (spliced ((false, eval (.Call (.Name "zip" p2) [e, e2] [] q2) X.env) :: backTo pos (starEach [] X.env))) _ _ s
  refine Calls.spliced_cons ?_
  refine Call_ (ld_blt I hg2 hm2 PyProof.Rows.boot_zip (PyProof.Rows.callWith_type1 (thn (ha.run q2 pins s σ H _ I h) fun us s1 ⟨vs, H1, I1, r1, q1⟩ => ?_) hs2 hpl))
  obtain ⟨a, b, ws, ys, ex, qx, qy, hl, hz, q⟩ := q1
  subst ex
  cases r1 with
  | cons r rr =>
    cases rr with
    | cons r' rr =>
      cases rr
      cases r
      cases r'
      obtain ⟨its, rv, pl, _⟩ := I1.list qx
      obtain ⟨its2, rv2, pl2, _⟩ := I1.list qy
      refine call_zip_2 pl.isList pl2.isList fun h' hz' hTI hTO h1 h2 hsz hk => ?_
      refine Calls.spliced_nil ?_
      have n1 : its.length = ws.length := by have := rv.length; rw [List.length_map] at this; exact this.symm
      have n2 : its2.length = ys.length := rv2.length.symm
      have D := PySem.W.ktu_apart s1.heap.objs.size a b pl.lt pl2.lt
      have P : Apt (s1.heap.objs.size + 4) (s1.heap.objs.size + 2) (s1.heap.objs.size + 3) s1.heap.objs.size (s1.heap.objs.size + 1) a b h'.objs.size := by
        have l1 : a < s1.heap.objs.size := pl.lt
        have l2 : b < s1.heap.objs.size := pl2.lt
        rw [hsz]
        exact ⟨D, Nat.add_lt_add_left (by decide : 4 < 5) _, Nat.add_lt_add_left (by decide : 2 < 5) _, Nat.add_lt_add_left (by decide : 3 < 5) _, Nat.add_lt_add_left (by decide : 0 < 5) _, Nat.add_lt_add_left (by decide : 1 < 5) _, Nat.lt_of_lt_of_le l1 (Nat.le_add_right _ _), Nat.lt_of_lt_of_le l2 (Nat.le_add_right _ _)⟩
      refine list_call (s := { s1 with heap := h' }) (xs := its.toArray) (ys := its2.toArray) (I1.ok.hd hc) P (by simp; omega) (by simp; omega) hz' hTI hTO h1 h2 (pl.isList.at fun o e => hk _ o e) (pl2.isList.at fun o e => hk _ o e) fun h2' tk acc c as hk2 hS hl2 hG hacc => ?_
      dsimp only at hk2 hS hG ⊢
      have I2 : Inv X pins σ H1 { s1 with heap := PySem.W.hideAll h' [s1.heap.objs.size + 4, s1.heap.objs.size + 3, s1.heap.objs.size, s1.heap.objs.size + 1] } := I1.kept (t' := s1.toks) fun c o e => PySem.W.hideAll_get _ (hk c o e) (fun hm => by
        have := Heap.lt_size e
        simp only [List.mem_cons, List.not_mem_nil, or_false] at hm
        rcases hm with z | z | z | z <;> (rw [z] at this; first | exact Nat.lt_irrefl _ this | exact absurd this (Nat.not_lt.mpr (Nat.le_add_right _ _))))
      obtain ⟨ps, kv, kl, kp⟩ := kv_zip rv rv2
      have hzl : (ws.zip ys).length = ws.length := by rw [List.length_zip]; omega
      have G' : PySem.W.KdxG (mixKind X.prog X.w) ps h'.objs.size h2' as := ⟨hG.rise, hG.above, fun j t hj => by
        obtain ⟨x, y, e1, e2, e3⟩ := hG.pairs j t hj
        have hj' : j < ws.length := by
          have := (List.getElem?_eq_some_iff.mp hj).1
          rw [hl2] at this
          simpa [n1] using this
        obtain ⟨k, f1, f2⟩ := kp j x y hj' (by simpa using e1) (by simpa using e2)
        exact ⟨x, k, y, f1, f2, e3⟩⟩
      have sz : (PySem.W.hideAll h' [s1.heap.objs.size + 4, s1.heap.objs.size + 3, s1.heap.objs.size, s1.heap.objs.size + 1]).objs.size = h'.objs.size := PySem.W.hideAll_size _ _
      obtain ⟨H', k1, k2, k3, k4, k5, k6, J⟩ := LiI.items_laid (h' := h2') (tk := tk) (acc := acc) (c := c) (as := as) I2 (by rw [List.length_map, hzl]; exact Nat.le_trans hz (by decide)) kv (fun t o e => by
          have e' := PySem.W.of_hideAll _ e
          have nm : t ∉ [s1.heap.objs.size + 4, s1.heap.objs.size + 3, s1.heap.objs.size, s1.heap.objs.size + 1] := fun hm => by
            have := PySem.W.hideAll_none _ (h := h') hm
            have e2 : (PySem.W.hideAll h' [s1.heap.objs.size + 4, s1.heap.objs.size + 3, s1.heap.objs.size, s1.heap.objs.size + 1]).get? t = some o := e
            rw [this] at e2; cases e2
          simp only [List.mem_cons, List.not_mem_nil, or_false, not_or] at nm
          exact hk2 t o nm.1 nm.2.1 nm.2.2.1 nm.2.2.2 e')
        (by show h2'.get? (PySem.W.hideAll h' _).objs.size = _; rw [sz]; exact hS) (by rw [hl2, kl, hzl]; simpa using n1) (by show PySem.W.KdxG _ _ (PySem.W.hideAll h' _).objs.size _ _; rw [sz]; exact G') hacc
      have e5 : (PySem.W.hideAll h' [s1.heap.objs.size + 4, s1.heap.objs.size + 3, s1.heap.objs.size, s1.heap.objs.size + 1]).objs.size = h'.objs.size := sz
      dsimp only at k2 k5
      rw [e5] at k2 k5
      exact ⟨.ref _, H', J, rfl, q H' _ as k1 k2 k3 k5 (paired_map (F := fun (t : Addr) (q : Key × V) => H' t = some (.tup [kV q.1, q.2])) (f := kvOf) k6)⟩
end
end LZ
set_option Elab.async false
set_option linter.all false
set_option maxRecDepth 100000
set_option maxHeartbeats 3200000
/-! sorted(set(xs)), xs a short list of texts: a list of some of them -/
namespace SX
open PySem PySem.Spec PyProof.Rows L2
def GoodS (w : World) (xs : List PySem.Str) (e : Int × Value) : Prop := ∃ k tk, e.2 = Value.str k tk ∧ e.1 = hashStr w k ∧ k ∈ xs
structure SR (w : World) (h : Heap) (a : Addr) (xs : List PySem.Str) (n : Nat) (es : Array (Int × Value)) (ep : Nat) (t : SetTable) : Prop where
  ob : ∃ o, h.get? a = some o ∧ o.ExactSet ∧ o.data = .set es ep t
  good : ∀ e ∈ es.toList, GoodS w xs e
  size : es.size ≤ n
  fits : t.fits es.size = true
  ris : Ris t.place.toList
  led : w.params.followText "set-order" = true ∨ t.led = true
section
variable {P : Program} {w : World} {A : Around} {E : Value → Shared → Prop} {s : Shared} {a : Addr} {xs : List PySem.Str} {n : Nat} {es : Array (Int × Value)} {ep : Nat} {t : SetTable}
theorem elems {l : List (Int × Value)} (g : ∀ e ∈ l, GoodS w xs e) : ElemsOf (PySem.strKind P w) l := fun e he => by
  obtain ⟨k, tk, h1, h2, _⟩ := g e he
  exact ⟨⟨k, by rw [h1]; show Value.isStrOf k (.str k tk) = true; simp [Value.isStrOf], h2⟩, by rw [h1] <;> rfl⟩
theorem add_tail {g : Bool → Sem Unit} (hg : ∀ (b : Bool) (s₁ : Shared) (Q' : Unit → Shared → Prop), Q' () s₁ → wpAny (model P w) A (g b) Q' E s₁)
    {o : Obj} (ho : s.heap.get? a = some o) (hex : o.ExactSet) (hd : o.data = .set es ep t) (hn : n < scanBound)
    {es1 : Array (Int × Value)} {t2 : SetTable} (g1 : ∀ e ∈ es1.toList, GoodS w xs e) (hb1 : es1.size ≤ n) (hf2 : t2.fits es1.size = true) (hr : Ris t2.place.toList) (hl : w.params.followText "set-order" = true ∨ t2.led = true) {wasDummy : Bool} {R : Option Bool → Shared → Prop}
    (hR : ∀ h' es' ep' t', Heap.SameBut a s.heap h' → SR w h' a xs n es' ep' t' → R (some true) { s with heap := h' }) :
    wpAny (model P w) A (do
        storeSet a es1 t2
        if (!wasDummy && t2.tooFull) = true then do
            g (relayAll t2 es1 (SetTable.grown es1.size)).2.2
            storeSet a (relayAll t2 es1 (SetTable.grown es1.size)).1 (relayAll t2 es1 (SetTable.grown es1.size)).2.1
            pure (some true)
          else pure (some true)) R E s := by
  refine wpAny_bind (wpAny_storeSet_of ho hd ?_ (fits_of_scanBound (Nat.lt_of_le_of_lt hb1 hn)))
  have ho1 := store_at (es' := es1) (t' := t2) ho hd
  have sb1 := Heap.SameBut.update s.heap a (Obj.putSet es1 t2)
  split
  · have pm := relayAll_perm t2 es1 (SetTable.grown es1.size)
    have hf3 := relayAll_fits t2 es1 (SetTable.grown es1.size)
    have hr3 := relayAll_ris t2 es1 (SetTable.grown es1.size)
    have hl3 := relayAll_led t2 es1 (SetTable.grown es1.size)
    generalize relayAll t2 es1 (SetTable.grown es1.size) = Z at pm hf3 hr3 hl3 ⊢
    obtain ⟨es2, t3, gave⟩ := Z
    dsimp only at pm hf3 hr3 hl3 ⊢
    have hsz : es2.size = es1.size := by rw [← Array.length_toList, pm.length_eq, Array.length_toList]
    have hb2 : es2.size ≤ n := by rw [hsz]; exact hb1
    refine wpAny_bind (hg _ _ _ ?_)
    refine wpAny_bind (wpAny_storeSet_of ho1 rfl ?_ (fits_of_scanBound (Nat.lt_of_le_of_lt hb2 hn)))
    have ho2 := store_at (es' := es2) (t' := t3) ho1 rfl
    refine wpAny_pure (hR _ es2 (ep + 1 + 1) t3 (sb1.trans (Heap.SameBut.update _ a _)) ?_)
    exact ⟨⟨_, ho2, hex, rfl⟩, fun e he => g1 e (pm.mem_iff.mp he), hb2, hf3, hr3, hl.imp id fun z => by rw [hl3]; exact z⟩
  · exact wpAny_pure (hR _ es1 (ep + 1) t2 sb1 ⟨⟨_, ho1, hex, rfl⟩, g1, hb1, hf2, hr, hl⟩)
theorem add_hashed {k : PySem.Str} {tk : Tok} {Q : Bool → Shared → Prop} (R : SR w s.heap a xs n es ep t) (hk : k ∈ xs) (room : n + 1 < scanBound)
    (hQ : ∀ b h' es' ep' t', Heap.SameBut a s.heap h' → SR w h' a xs (n + 1) es' ep' t' → Q b { s with heap := h' }) :
    wpAny (model P w) A (setAddHashed a (.str k tk) ((PySem.strKind P w).hash k)) Q E s := by
  obtain ⟨⟨o, ho, hex, hd⟩, g, hb0, hf, hr, hl⟩ := R
  have hb : es.size < scanBound := by omega
  have hkey : (PySem.strKind P w).is k (.str k tk) = true := by show Value.isStrOf k (.str k tk) = true; simp [Value.isStrOf]
  have hsc : (Value.str k tk).scannable = true := rfl
  have hel : ElemsOf (PySem.strKind P w) es.toList := elems g
  unfold setAddHashed setAddHashedIn
  refine wpAny_holding (wpAny_bind (wpAny_setState_of ho hd hf ?_))
  dsimp only
  rw [byScan_of hsc hb hel]
  simp only [↓reduceIte]
  unfold setAddByScan
  refine wpAny_bind ?_
  refine wpAny_bind (wpAny_rule ?_)
  refine wpAny_bind (wpAny_setScan_of hkey ho hd hf hel ?_)
  cases hfi : List.findIdx? (fun e => (PySem.strKind P w).is k e.2) es.toList with
  | some j =>
    dsimp only
    refine wpAny_pure (wpAny_pure ?_)
    exact hQ _ s.heap es ep t (Heap.SameBut.refl a s.heap) ⟨⟨o, ho, hex, hd⟩, g, Nat.le_succ_of_le hb0, hf, hr, hl⟩
  | none =>
    dsimp only
    have hgw : ∀ (b : Bool) {s₁ : Shared} {Q' : Unit → Shared → Prop}, Q' () s₁ → wpAny (model P w) A (match b with | true => rule "set.scan.the-table-gave-way" | false => pure ()) Q' E s₁ :=
      fun b s₁ Q' q => by cases b <;> first | exact wpAny_pure q | exact wpAny_rule q
    have pm := layNew_perm t es ((PySem.strKind P w).hash k) (.str k tk)
    have hf1 := layNew_fits t es ((PySem.strKind P w).hash k) (.str k tk)
    have hr1 := layNew_ris t es ((PySem.strKind P w).hash k) (.str k tk) hr
    have hl1 := layNew_led t es ((PySem.strKind P w).hash k) (.str k tk)
    generalize layNew t es ((PySem.strKind P w).hash k) (.str k tk) = Z at pm hf1 hr1 hl1 ⊢
    obtain ⟨es1, t1, wasDummy, gave⟩ := Z
    dsimp only at pm hf1 hr1 hl1 ⊢
    rw [Array.toList_push] at pm
    have pc : es1.toList.Perm (((PySem.strKind P w).hash k, Value.str k tk) :: es.toList) := pm.trans (List.perm_append_singleton _ _)
    have g1 : ∀ e ∈ es1.toList, GoodS w xs e := fun e he => by
      rcases List.mem_cons.mp (pc.mem_iff.mp he) with z | z
      · rw [z]; exact ⟨k, tk, rfl, rfl, hk⟩
      · exact g e z
    have hsz : es1.size ≤ n + 1 := by
      have : es1.size = es.size + 1 := by rw [← Array.length_toList, pc.length_eq, List.length_cons, Array.length_toList]
      omega
    have hled : w.params.followText "set-order" = true ∨ t1.led = true := hl.imp id fun z => by rw [hl1]; exact z
    refine wpAny_bind (hgw _ ?_)
    split
    · refine wpAny_bind ?_
      rw [hashByValue_scannable 8 hsc]
      refine wpAny_pure ?_
      refine add_tail ?_ ho hex hd room g1 hsz ?_ ?_ ?_ ?_
      · intro b s₁ Q' q; cases b <;> first | exact wpAny_pure q | exact wpAny_rule q
      · first | (split <;> first | exact hf1 | exact SetTable.fits_plain_off hf1) | exact hf1
      · first | (split <;> exact hr1) | exact hr1
      · first | (split <;> exact hled) | exact hled
      · intro h' _ _ _ sb r; dsimp only; exact wpAny_pure (hQ _ h' _ _ _ sb r)
    · refine wpAny_bind (wpAny_pure ?_)
      simp only [↓reduceIte]
      refine add_tail ?_ ho hex hd room g1 hsz hf1 hr1 hled ?_
      · intro b s₁ Q' q; cases b <;> first | exact wpAny_pure q | exact wpAny_rule q
      · intro h' _ _ _ sb r; dsimp only; exact wpAny_pure (hQ _ h' _ _ _ sb r)
theorem SR.at {h h' : Heap} (R : SR w h a xs n es ep t) (k : ∀ o, h.get? a = some o → h'.get? a = some o) : SR w h' a xs n es ep t := by
  obtain ⟨⟨o, ho, r⟩, r2, r3, r4, r5, r6⟩ := R
  exact ⟨⟨o, k o ho, r⟩, r2, r3, r4, r5, r6⟩
/-- set.update's loop -/
theorem update_loop {I : Addr} {fp wr : List Addr} {G : Array GenState → Array GenState → Prop} {m : Nat} {Pv : Nat → Value → Prop} {St : Nat → Shared → Prop} {R : Result → Shared → Prop}
    (W : WalksS P w A.in1 I fp wr G m Pv St) (S : Addr) (hSf : S ∉ fp) (xs : List PySem.Str) (hm : m < 1000) (hval : ∀ i v, Pv i v → ∃ k tk, k ∈ xs ∧ v = .str k tk)
    (h0 : Heap) (hS0 : h0.get? S = none) (hw0 : ∀ b ∈ wr, h0.get? b = none) :
    ∀ (k i : Nat) (s : Shared), m - i = k → i ≤ m → St i s → (∀ b o, h0.get? b = some o → s.heap.get? b = some o) → (∃ es ep t, SR w s.heap S xs i es ep t) →
      (∀ s' es ep t, Moved (S :: wr) G s s' → SR w s'.heap S xs m es ep t → (∀ b o, h0.get? b = some o → s'.heap.get? b = some o) → R (.ok (.ret .none)) s') →
      codeAny (model P w) A (.builtin "set.update.loop" ⟨[.ref S, .ref I], []⟩) R s := by
  have hSw : S ∉ wr := fun h => hSf (W.sub _ h)
  have hsub : ∀ b ∈ wr, b ∈ S :: wr := fun b hb => List.mem_cons_of_mem _ hb
  have keepM : ∀ {s s' : Shared}, Moved wr G s s' → (∀ b o, h0.get? b = some o → s.heap.get? b = some o) → ∀ b o, h0.get? b = some o → s'.heap.get? b = some o := fun hm hkp b o e =>
    hm.heap b o (fun hb => by rw [hw0 b hb] at e; cases e) (hkp b o e)
  intro k
  induction k with
  | zero =>
    intro i s hk' hi hst hkp ⟨es, ep, t, hS⟩ hR
    have hin : i = m := by omega
    subst hin
    refine codeAny_builtin F.entry_set_update_loop ?_
    rw [Around.under_plainId F.plain_set_update_loop _]
    show wpAny _ A.in1 (pyNext (.ref I) >>= _) _ _ s
    refine wpAny_bind (W.done s _ _ hst fun s' hm' => ?_)
    show wpAny _ A.in1 (ret Value.none) _ _ s'
    exact wpAny_pure (hR s' es ep t (hm'.mono hsub) (hS.at fun o e => hm'.heap S o hSw e) (keepM hm' hkp))
  | succ k ih =>
    intro i s hk' hi hst hkp ⟨es, ep, t, hS⟩ hR
    have hlt : i < m := by omega
    refine codeAny_builtin F.entry_set_update_loop ?_
    rw [Around.under_plainId F.plain_set_update_loop _]
    show wpAny _ A.in1 (pyNext (.ref I) >>= _) _ _ s
    refine wpAny_bind (W.item i s _ _ hlt hst fun v s' hP hst' hm' => ?_)
    obtain ⟨x, tk, hx, rfl⟩ := hval i v hP
    have hkp' := keepM hm' hkp
    have hS' : SR w s'.heap S xs i es ep t := hS.at fun o e => hm'.heap S o hSw e
    show wpAny _ A.in1 (holding [Value.str x tk] (setAdd S (.str x tk)) >>= _) _ _ s'
    refine wpAny_bind (wpAny_holding ?_)
    unfold setAdd
    refine wpAny_holding ?_
    refine wpAny_bind ((PySem.strKind P w).pyHash (k := x) (show Value.isStrOf x (.str x tk) = true by simp [Value.isStrOf]) ?_)
    refine add_hashed (s := { s' with toks := s'.toks + 1 }) hS' hx (by show i + 1 < 4096; omega) fun b h' es' ep' t' hsb hS2 => ?_
    have hkp2 : ∀ b o, h0.get? b = some o → h'.get? b = some o := fun b o e => (hsb.2 b (fun z => by rw [z, hS0] at e; cases e)).trans (hkp' b o e)
    refine wpAny_pure ⟨plainId_quiet F.plain_set_update_loop _, ih (i + 1) _ (by omega) hlt (W.frame _ s' _ _ hst' (Nat.le_succ _) fun b hb o e => ?_) hkp2 ⟨es', ep', t', hS2⟩ fun s'' es2 ep2 t2 hm'' hS'' hkp'' => ?_⟩
    · rw [hsb.2 b (fun h : b = S => hSf (by rw [← h]; exact hb))]; exact e
    · refine hR s'' es2 ep2 t2 (Moved.trans W.gtrans ((hm'.mono hsub).then_heap (Nat.le_succ _) fun b o hb e => ?_) hm'') hS'' hkp''
      rw [hsb.2 b (fun h : b = S => hb (by rw [h]; exact List.mem_cons_self))]; exact e
theorem fresh {h : Heap} {a : Addr} (ho : h.get? a = some { cls := .type "set", dict := none, data := .set #[] 0 (.fresh 0 0 (!w.params.followText "set-order")) }) (xs : List PySem.Str) : SR w h a xs 0 #[] 0 (.fresh 0 0 (!w.params.followText "set-order")) where
  ob := ⟨_, ho, ⟨rfl, rfl, rfl⟩, rfl⟩
  good := fun e he => by simp at he
  size := Nat.le_refl _
  fits := by rfl
  ris := List.Pairwise.nil
  led := by
    show _ ∨ (!w.params.followText "set-order") = true
    cases w.params.followText "set-order"
    · exact .inr rfl
    · exact .inl rfl
/-- set(xs) -/
theorem call_set {l : Addr} {items : Array Value} (xs : List PySem.Str) {Q : Value → Shared → Prop} (hh : A.handled = none) (hl : s.heap.IsList l items) (hit : ∀ v ∈ items.toList, ∃ k tk, k ∈ xs ∧ v = .str k tk) (hfew : items.size < 1000)
    (h : ∀ (h' : Heap) (tk : Nat) es ep t, SR w h' s.heap.objs.size xs items.size es ep t → (∀ b o, s.heap.get? b = some o → h'.get? b = some o) → Q (.ref s.heap.objs.size) { s with heap := h', toks := tk }) :
    wpAny (model P w) A (call (.type "set") [.ref l]) Q E s := by
  obtain ⟨c, tl, hmro⟩ := F.called_set.mro
  have hmade := F.called_set.made
  have hsub := F.called_set.sub
  refine wpAny_call (codeAny_of_tree ?_)
  show wpAny _ _ (callAny (.type "set") _) _ _ _
  refine wpAny_pure ⟨Code.quiet_builtin _ (by decide +kernel), codeAny_builtin F.entry_type_call ?_⟩
  rw [Around.under_plain (weight_type_call_type "set" [.ref l] []) rfl]
  have h1 := F.called_set.notType
  have h2 := F.called_set.canCreate
  have hct := F.typeCall_set_1 (.ref l)
  repeat (any_goals (first | assumption | wp_step))

  refine codeAny_mono (code_set_led1 (.ref l) (E := E) (Q₁ := fun obj s₁ => obj = .ref s.heap.objs.size ∧ s₁ = { s with heap := s.heap.push { cls := .type "set", dict := none, data := .set #[] 0 (.fresh 0 0 (!w.params.followText "set-order")) } }) ⟨rfl, rfl⟩) fun r s₁ hr => ?_
  cases r with
  | error e => exact hr
  | ok fl =>
    cases fl with
    | ret obj =>
      obtain ⟨rfl, rfl⟩ := hr
      have hS : (s.heap.push { cls := .type "set", dict := none, data := .set #[] 0 (.fresh 0 0 (!w.params.followText "set-order")) }).get? s.heap.objs.size = some { cls := .type "set", dict := none, data := .set #[] 0 (.fresh 0 0 (!w.params.followText "set-order")) } := Heap.get?_push_size _ rfl
      have hT : Shared.TypeIs { s with heap := s.heap.push { cls := .type "set", dict := none, data := .set #[] 0 (.fresh 0 0 (!w.params.followText "set-order")) } } (.ref s.heap.objs.size) "set" := ⟨_, hS, rfl⟩
      have hli := F.called_set.init.lookup
      have hbi := F.called_set.init.bind (.ref s.heap.objs.size)
      repeat (any_goals (first | assumption | wp_step))

      refine codeAny_mono (codeAny_call_builtin (R := wants (fun r s₂ => r = .none ∧ ∃ h' tk es ep t, s₂ = { s with heap := h', toks := tk } ∧ SR w h' s.heap.objs.size xs items.size es ep t ∧
          (∀ b o, s.heap.get? b = some o → h'.get? b = some o)) E) F.called_set.init.plain F.entry_set_init (check_set_init_1 hT ?_)) fun r₂ s₂ hr₂ => ?_
      · obtain ⟨ol, hol, hcl, nl, hdl⟩ := hl
        obtain ⟨ocls, odict, odata, oslots⟩ := ol
        simp only at hcl hdl
        subst hcl; subst hdl
        have hol' : (s.heap.push { cls := .type "set", dict := none, data := .set #[] 0 (.fresh 0 0 (!w.params.followText "set-order")) }).get? l = some { cls := .type "list", dict := odict, data := .seq items nl, slots := oslots } := Heap.get?_push_of_some _ hol
        have hsls := F.sub_list_set
        have hslf := F.sub_list_frozenset
        have hne : (Value.type "list" == Value.type "dict") = false := by decide
        have hl1 : (s.heap.push { cls := .type "set", dict := none, data := .set #[] 0 (.fresh 0 0 (!w.params.followText "set-order")) }).IsList l items := ⟨_, hol', rfl, nl, rfl⟩
        unfold Builtin.«set.__init__» noKeywords Builtin.Frozenset.updateFrom
        generalize hPI : pyIter = PI
        wp_walk
        subst hPI

        refine wpAny_pyIter_list hl1 ?_
        refine wpAny_bind (wpAny_runValue ?_)
        have hlS : l < s.heap.objs.size := Heap.lt_size hol
        have hh3 : A.in1.in1.in1.handled = none := by simp [hh]
        have hneI : l ≠ (s.heap.push { cls := .type "set", dict := none, data := .set #[] 0 (.fresh 0 0 (!w.params.followText "set-order")) }).objs.size := by
          rw [Heap.size_push]; exact Nat.ne_of_lt (Nat.lt_succ_of_lt hlS)
        have hSf : s.heap.objs.size ∉ [(s.heap.push { cls := .type "set", dict := none, data := .set #[] 0 (.fresh 0 0 (!w.params.followText "set-order")) }).objs.size, l] := by
          rw [Heap.size_push]; simp only [List.mem_cons, List.mem_singleton, List.not_mem_nil, or_false, not_or]
          exact ⟨Nat.ne_of_lt (Nat.lt_succ_self _), Nat.ne_of_gt hlS⟩
        have hval : ∀ (i : Nat) (v : Value), items[i]? = some v → ∃ k tk, k ∈ xs ∧ v = .str k tk := fun i v hv => hit v (by
          have q : items.toList[i]? = some v := by rw [Array.getElem?_toList]; exact hv
          exact List.mem_of_getElem? q)
        have none_of : ∀ b, s.heap.objs.size ≤ b → s.heap.get? b = none := fun b hb => by
          cases q : s.heap.get? b with
          | none => rfl
          | some o => exact absurd (Nat.lt_of_lt_of_le (Heap.lt_size q) hb) (Nat.lt_irrefl _)
        refine update_loop ((Walks.list hh3 _ l hneI items).toS) s.heap.objs.size
          hSf xs hfew hval s.heap (none_of _ (Nat.le_refl _)) (fun b hb => none_of b (by
            rw [List.mem_singleton.mp hb, Heap.size_push]
            exact Nat.le_succ _)) (items.size - 0) 0 _ (by omega) (Nat.zero_le _)
          ⟨⟨_, Heap.get?_push_size _ rfl, rfl, rfl⟩, (hl1.push _)⟩ (fun b o e => Heap.get?_push_of_some _ (Heap.get?_push_of_some _ e)) ?hS0 ?hR
        case hS0 =>
          have hget : ((s.heap.push { cls := .type "set", dict := none, data := .set #[] 0 (.fresh 0 0 (!w.params.followText "set-order")) }).push { cls := .type "list_iterator", data := .fields #[.ref l, .int 0 0] }).get? s.heap.objs.size
              = some { cls := .type "set", dict := none, data := .set #[] 0 (.fresh 0 0 (!w.params.followText "set-order")) } := Heap.get?_push_of_some _ hS
          exact ⟨#[], 0, _, fresh hget xs⟩
        case hR =>
          intro s' es ep t hm hS' hkp
          obtain ⟨h', g2, d', tk', os'⟩ := s'
          have eg : g2 = s.gens := hm.gens
          have ed : d' = s.drawn := hm.drawn
          have eo : os' = s.os := hm.os
          subst eg; subst ed; subst eo
          show wpAny _ _ _ _ _ _
          refine wpAny_pure ?_
          show wpAny _ _ (ret Value.none) _ _ _
          exact wpAny_pure ⟨rfl, h', tk', es, ep, t, rfl, hS', hkp⟩

      · cases r₂ with
        | error e => exact hr₂
        | ok fl₂ =>
          cases fl₂ with
          | ret r =>
            obtain ⟨rfl, h', tk, es, ep, t, rfl, hS', hk'⟩ := hr₂
            repeat (any_goals (first | assumption | wp_step))
            exact h _ _ _ _ _ hS' hk'
          | _ => exact hr₂.elim
    | _ => exact hr.elim
theorem strs_of : ∀ {xs : List PySem.Str} (l : List Value), (∀ v ∈ l, ∃ k tk, k ∈ xs ∧ v = Value.str k tk) → ∃ ss : List PySem.Str, StrsAre l ss ∧ ∀ k ∈ ss, k ∈ xs
  | _, [], _ => ⟨[], .nil, fun k hk => by cases hk⟩
  | xs, v :: l, h => by
    obtain ⟨k, tk, hk, rfl⟩ := h v List.mem_cons_self
    obtain ⟨ss, h1, h2⟩ := strs_of (xs := xs) l fun u hu => h u (List.mem_cons_of_mem _ hu)
    exact ⟨k :: ss, .cons k tk h1, fun j hj => by
      rcases List.mem_cons.mp hj with z | z
      · rw [z]; exact hk
      · exact h2 j z⟩
/-- sorted(set) -/
theorem call_sorted {Q : Value → Shared → Prop} (R : SR w s.heap a xs n es ep t) (hh : A.handled = none) (h64 : n < 64)
    (hQ : ∀ s' p (out : Array Value) (c : Nat) (ss : List PySem.Str), (∀ b o, s.heap.get? b = some o → s'.heap.get? b = some o) → s'.gens = s.gens → s'.os = s.os → s.heap.objs.size ≤ p →
      s'.heap.get? p = some (seqObj "list" out c) → StrsAre out.toList ss → (∀ k ∈ ss, k ∈ xs) → ss.length ≤ n → Q (.ref p) s') :
    wpAny (model P w) A (call (.builtin "sorted") [.ref a]) Q E s := by
  obtain ⟨⟨o, ho, hex, hd⟩, g, hb0, hf, hr, hl⟩ := R
  have hb : es.size < scanBound := by show es.size < 4096; omega
  refine Calls.call_function_entry kind_sorted plain_sorted entry_sorted (args_sorted1 _) ?_
  unfold Builtin.«sorted»
  refine wpAny_bind (m := checkCount "sorted" 1 1 _) (wpAny_pure ?_)
  refine wpAny_bind (collect_set (A := A.in1) hh ⟨o, ho, hex.1, hd⟩ hf hb hr hl fun s1 vs k1 hz g1 o1 pm => ?_)
  have hvl : vs.length ≤ n := by rw [pm.length_eq, List.length_map, Array.length_toList]; exact hb0
  obtain ⟨ss0, hS, hss⟩ := strs_of (xs := xs) vs fun v hv => by
    obtain ⟨e, he, q⟩ := List.mem_map.mp (pm.mem_iff.mp hv)
    obtain ⟨k, tk, h1, _, h2⟩ := g e he
    exact ⟨k, tk, h2, by rw [← q]; exact h1⟩
  have hsl : ss0.length = vs.length := hS.length.symm
  refine wpAny_bind (wpAny_newList ?_ (by rw [sizeLine_eq]; omega))
  have hoL : (s1.heap.push (seqObj "list" vs.toArray 0)).get? s1.heap.objs.size = some (seqObj "list" vs.toArray 0) := Heap.get?_push_size _ rfl
  refine wpAny_bind (wpAny_holding (wpAny_call_entry slot_list_sort ⟨_, hoL, rfl⟩ entry_list_sort (list_sort_treeK strKind_oneLt hoL hS.keysOf (fun v₁ v₂ rest e => keyKind_strs (by rw [← e]; exact hS)) (by omega) fun st' hp hs => ⟨_, rfl, ?_⟩) (args_list_sort _)))
  obtain ⟨ss', a1, a2, a3⟩ := sorted_out_str hS hp hs
  generalize (arrOf st').map (·.2) = out at a1 ⊢
  obtain ⟨c, hc⟩ := sortedHeap_at (vs := vs) (out := out) hoL
  refine wpAny_pure ⟨_, rfl, hQ _ s1.heap.objs.size out c ss' (fun b u e => ?_) g1 o1 hz hc a1 (fun k hk => hss k (a2.mem_iff.mp hk)) (by rw [a2.length_eq]; omega)⟩
  have q := k1 b u e
  have hlt := Heap.lt_size q
  show (sortedHeap (s1.heap.push (seqObj "list" vs.toArray 0)) s1.heap.objs.size vs out).get? b = some u
  rw [sortedHeap_old (Nat.ne_of_lt hlt) (by rw [size_push']; exact Nat.lt_succ_of_lt hlt)]
  exact Heap.get?_push_of_some _ q
end
end SX
namespace SX
open PySem PySem.Spec PyProof.Rows L2 DL
def tSortedSet (K : PySem.W.Frag) (ta : TA) : TE := fun σ H Q => ta σ H fun vs H1 => ∃ (a : Addr) (xs : List PySem.Str), vs = [.ref a] ∧ SqL K H1 a (xs.map V.str) ∧ xs.length < 64 ∧
  ∀ (ys : List PySem.Str) (p : Addr), (∀ k ∈ ys, k ∈ xs) → ys.length ≤ xs.length → H1 p = none → Q (.ref p) (upd H1 p (.lst (ys.map V.str)))
theorem boot_set : bootBuiltins "set" = some (.type "set") := by boot_by_name
theorem boot_sorted : bootBuiltins "sorted" = some (.builtin "sorted") := by boot_by_name
theorem strs_of_vals : ∀ {xs : List PySem.Str} {us : List Value}, Vals (xs.map V.str) us → ∀ v ∈ us, ∃ k tk, k ∈ xs ∧ v = Value.str k tk
  | [], us, h, v, hv => by cases h; cases hv
  | x :: xs, us, h, v, hv => by
    cases h with
    | cons a b =>
      obtain ⟨t, rfl⟩ := a
      rcases List.mem_cons.mp hv with z | z
      · exact ⟨x, t, List.mem_cons_self, z⟩
      · obtain ⟨k, tk, h1, h2⟩ := strs_of_vals b v z
        exact ⟨k, tk, List.mem_cons_of_mem _ h1, h2⟩
section
variable {X : Cx}
theorem pe_sortedSet {e : Expr} {ta : TA} {p p2 q2 pos : Pos} (hc : X.calm = true) (hg : Gl X "sorted") (hm : X.mg "sorted" = none) (hg2 : Gl X "set") (hm2 : X.mg "set" = none) (ha : PA X [e] ta)
    (hs2 : starEach [e] X.env = (false, eval e X.env) :: starEach [] X.env := by rfl) (hpl : (backTo q2 (starEach [] X.env)).any (·.1) = false := by rfl)
    (hs : starEach [.Call (.Name "set" p2) [e] [] q2] X.env = (false, eval (.Call (.Name "set" p2) [e] [] q2) X.env) :: starEach [] X.env := by rfl) :
    PE X (.Call (.Name "sorted" p) [.Call (.Name "set" p2) [e] [] q2] [] pos) (tSortedSet X.K ta) := by
  refine ⟨fun pins s σ H Q I h => ?_⟩
  refine Call_ (ld_blt I hg hm boot_sorted ?_)
  rw [hs]
  refine Calls.callWith_builtin (by first | rfl | with_unfolding_all rfl) (Calls.evalArgs_plain ?_)
  show wpAny _ _ (spliced ((false, eval (.Call (.Name "set" p2) [e] [] q2) X.env) :: backTo pos (starEach [] X.env))) _ _ s
  refine Calls.spliced_cons ?_
  refine Call_ (ld_blt I hg2 hm2 boot_set (PyProof.Rows.callWith_type1 (thn (ha.run q2 pins s σ H _ I h) fun us s1 ⟨vs, H1, I1, r1, q1⟩ => ?_) hs2 hpl))
  obtain ⟨a, xs, ex, qx, h64, q⟩ := q1
  subst ex
  cases r1 with
  | cons r rr =>
    cases rr
    cases r
    obtain ⟨its, rv, pl, _⟩ := I1.list qx
    have n1 : its.length = xs.length := by have := rv.length; rw [List.length_map] at this; exact this.symm
    refine call_set xs (I1.ok.hd hc) pl.isList (fun v hv => strs_of_vals rv v (by simpa using hv)) (by simp; omega) fun h' tk es ep t R hk => ?_
    refine Calls.spliced_nil ?_
    have I2 : Inv X pins σ H1 { s1 with heap := h', toks := tk } := I1.kept hk
    refine call_sorted (s := { s1 with heap := h', toks := tk }) R (I1.ok.hd hc) (by simp; omega) fun s' p' out c ss k2 g2 o2 hp2 hg' hS hin hln => ?_
    have hn : H1 p' = none := I2.hok.fresh hp2
    have hlen : (ss.map V.str).length ≤ sizeLine := by rw [List.length_map, sizeLine_eq]; simp at hln; omega
    have J : Inv X pins σ (upd H1 p' (.lst (ss.map V.str))) { ({ s1 with heap := h', toks := tk } : Shared) with heap := s'.heap, gens := s'.gens, drawn := s'.drawn, toks := s'.toks } :=
      I2.call (ch := []) (Un.laid k2 hp2 hn) (I2.hok.laid k2 hp2 ⟨hlen, out.toList, c, vals_of_strs hS, hg'⟩) (by rw [g2]; exact I2.bare) (fun _ z => nomatch z)
    have e : s' = { s1 with heap := s'.heap, gens := s'.gens, drawn := s'.drawn, toks := s'.toks } := by
      obtain ⟨h2, g2', d2, t2, os2⟩ := s'
      have o2' : os2 = s1.os := o2
      subst o2'
      rfl
    rw [e]
    exact ⟨.ref p', _, J, rfl, q ss p' hin (by simp at hln; omega) hn⟩
end
end SX
set_option Elab.async false
set_option linter.all false
set_option maxRecDepth 100000
set_option maxHeartbeats 3200000
namespace ZM
open PySem PySem.Spec PyProof.Rows L2 DL
/-! tuple * 0, tuple * 1; text * int -/
theorem tuple_mul1 (l : Addr) (items : Array Value) (n : Nat) (dd : Option Addr) (sl : Array (Option Value)) (u : Tok) :
    Meets (Builtin.«tuple.__mul__» ⟨[.ref l, .int 1 u], []⟩) (fun _ R s => s.heap.get? l = some { cls := .type "tuple", dict := dd, data := .seq items n, slots := sl } ∧ R (.ok (.ret (Value.ref l))) s) :=
  .of_wp fun prog w A R s h => by
    obtain ⟨hp, g, d, tk, os⟩ := s
    obtain ⟨hl, h⟩ := h
    have f1 := AutoSeq1.idx_int
    have c1 : (items.isEmpty || (1 : Int) == 1) = true := by simp
    wp_walk using wpAny_loadPart' hl
    repeat (first
      | (refine wpAny_ite_true (by first | exact c1 | (simp; done) | simpa using c1) ?_; wp_walk using wpAny_loadPart' hl)
      | (refine wpAny_ite_false (by first | decide | (simp; done)) ?_; wp_walk using wpAny_loadPart' hl))
    all_goals exact ⟨_, rfl, h⟩
theorem tuple_mul0 (l : Addr) (items : Array Value) (n : Nat) (dd : Option Addr) (sl : Array (Option Value)) (u : Tok) (hi : items.isEmpty = false) :
    Meets (Builtin.«tuple.__mul__» ⟨[.ref l, .int 0 u], []⟩) (fun _ R s => s.heap.get? l = some { cls := .type "tuple", dict := dd, data := .seq items n, slots := sl } ∧ R (.ok (.ret (Value.ref s.heap.objs.size))) { s with heap := s.heap.push { cls := Value.type "tuple", data := Data.seq #[] }, toks := s.toks }) :=
  .of_wp fun prog w A R s h => by
    obtain ⟨hp, g, d, tk, os⟩ := s
    obtain ⟨hl, h⟩ := h
    have f1 := AutoSeq1.idx_int
    have c1 : ¬ ((items.isEmpty || (0 : Int) == 1) = true) := by rw [hi]; decide
    have c2 : (decide ((0 : Int) ≤ 0) || items.isEmpty) = true := by simp
    wp_walk using wpAny_loadPart' hl
    repeat (first
      | (refine wpAny_ite_false (decide_eq_false c1) ?_; wp_walk using wpAny_loadPart' hl)
      | (refine wpAny_ite_true (decide_eq_true c2) ?_; wp_walk using wpAny_loadPart' hl)
      | (refine wpAny_ite_false (by first | decide | (simp; done)) ?_; wp_walk using wpAny_loadPart' hl))
    all_goals exact ⟨_, rfl, h⟩
def rRepT1 (K : PySem.W.Frag) : R2 := fun x y H Q => ∃ l k xs, x = .ref l ∧ y = .int k ∧ SqT K H l xs ∧ xs ≠ [] ∧ ((k = 1 ∧ Q (.ref l) H) ∨ (k = 0 ∧ ∀ p, H p = none → Q (.ref p) (upd H p (.tup []))))
section
variable {X : Cx}
theorem op_repT1 : OpR X (binaryOp .Mult) (rRepT1 X.K) := by
  intro pins s σ H x y v u Q I rx ry h
  obtain ⟨l, k, xs, rfl, rfl, hT, hne, q⟩ := h
  cases rx
  obtain ⟨t, rfl⟩ := ry
  obtain ⟨its, r, ⟨⟨cls, dd, data, sl⟩, ho, hc, n, hd⟩, hs⟩ := I.tuple hT
  simp only at hc hd
  subst hc hd
  have hle : its.length = xs.length := r.length.symm
  have hn : its ≠ [] := fun e => hne (by
    rw [e] at hle
    exact List.eq_nil_of_length_eq_zero hle.symm)
  have hi : its.toArray.isEmpty = false := by
    cases its with
    | nil => exact absurd rfl hn
    | cons a b => rfl
  rcases q with ⟨rfl, q⟩ | ⟨rfl, q⟩
  · exact wpAny_binaryOp_repeat_ref (T := "tuple") (U := "int") (by decide) ⟨_, ho, rfl⟩ (fun s' => typeIs_int s' 1 t) noFill_tuple_mul F.fills_int_mul F.slot_int_rmul repeat_tuple F.slot_int_index.lookup
      (call_meets F.slot_int_rmul (typeIs_int s 1 t) F.entry_int_rmul (F.args_int_rmul_2 _ _) (int_rmul_tuple 1 t l its.toArray n dd sl)
        ⟨ho, rfl, ⟨_, ho, rfl⟩, call_meets F.slot_tuple_mul ⟨_, ho, rfl⟩ F.entry_tuple_mul (F.args_tuple_mul_2 _ _) (tuple_mul1 l its.toArray n dd sl t) ⟨ho, ⟨.ref l, H, I, rfl, q⟩⟩⟩)
  · refine wpAny_binaryOp_repeat_ref (T := "tuple") (U := "int") (by decide) ⟨_, ho, rfl⟩ (fun s' => typeIs_int s' 0 t) noFill_tuple_mul F.fills_int_mul F.slot_int_rmul repeat_tuple F.slot_int_index.lookup
      (call_meets F.slot_int_rmul (typeIs_int s 0 t) F.entry_int_rmul (F.args_int_rmul_2 _ _) (int_rmul_tuple 0 t l its.toArray n dd sl)
        ⟨ho, rfl, ⟨_, ho, rfl⟩, call_meets F.slot_tuple_mul ⟨_, ho, rfl⟩ F.entry_tuple_mul (F.args_tuple_mul_2 _ _) (tuple_mul0 l its.toArray n dd sl t hi) ⟨ho, ?_⟩⟩)
    refine ⟨.ref s.heap.objs.size, _, I.laid (t' := s.toks) (o := .tup []) (fun b ob q => Heap.get?_push_of_some _ q) (Nat.le_refl _) ?_, rfl, q _ (I.hok.fresh (Nat.le_refl _))⟩
    exact ⟨Nat.zero_le _, [], .nil, IsTup.new _ _⟩
/-- a text six times -/
def hld : PySem.Str := PySem.Str.ofString "hold a b\n"
def hld6 : PySem.Str := ⟨(List.replicate (6 : Int).toNat hld.cps).foldl (· ++ ·) #[]⟩
def rRepS : R2 := fun x y H Q => x = .str hld ∧ y = .int 6 ∧ Q (.str hld6) H
theorem op_repS : OpR X (binaryOp .Mult) rRepS := by
  intro pins s σ H x y v u Q I rx ry h
  obtain ⟨rfl, rfl, q⟩ := h
  obtain ⟨t, rfl⟩ := rx
  obtain ⟨t2, rfl⟩ := ry
  refine P.mul_str (by decide) (fun _ _ => by decide +kernel) (fun _ _ => by decide +kernel) ?_
  rw [if_neg (by decide), if_neg (by decide +kernel)]
  exact ⟨by decide +kernel, ⟨.str hld6, H, I.tok _, ⟨_, rfl⟩, q⟩⟩
end
end ZM
set_option Elab.async false
set_option linter.all false
set_option maxRecDepth 100000
set_option maxHeartbeats 2000000
namespace CL
open PySem L2 DL
local macro_rules | `(tactic| walk_at "dl1") => `(tactic| first
  | ((with_reducible refine' ed_var ?hv ?_); (case hv => exact rfl))
  | with_reducible refine ed_int ?_
  | with_reducible refine ed_str ?_
  | with_reducible refine ed_bl ?_
  | with_reducible refine ed_non ?_
  | with_reducible refine ed_op ?_
  | with_reducible refine ea_cons ?_
  | with_reducible refine ea_nil ?_
  | with_reducible refine ed_isi ?_
  | with_reducible refine ed_cb ?_
  | with_reducible refine ed_call ?_
  | with_reducible refine ed_tup ?_
  | with_reducible refine ed_lst ?_
  | with_reducible refine ed_andV ?_
  | with_reducible refine ed_orV ?_
  | with_reducible refine ed_notV ?_
  | with_reducible refine ed_chain ?_
  | with_reducible refine ed_if ?_
  | with_reducible refine ed_un ?_
  | with_reducible refine ed_sl ?_
  | with_reducible refine ed_revL ?_
  | with_reducible refine ed_m1 ?_
  | with_reducible refine eo_no ?_
  | with_reducible refine eo_some ?_
  | with_reducible refine et_test ?_
  | with_reducible refine et_B ?_
  | with_reducible refine et_and ?_
  | with_reducible refine et_or ?_
  | with_reducible refine et_not ?_
  | with_reducible refine et_yes ?_
  | with_reducible refine sd_seq ?_
  | with_reducible refine sd_next ?_
  | with_reducible refine sd_set ?_
  | with_reducible refine sd_ret ?_
  | with_reducible refine sd_drop ?_
  | with_reducible refine sd_if ?_
  | with_reducible refine sd_par ?_
  | with_reducible refine sd_par3 ?_
  | with_reducible refine rd_addI ?_
  | with_reducible refine rd_subI ?_
  | with_reducible refine rd_ltI ?_
  | with_reducible refine rd_leI ?_
  | with_reducible refine rd_gtI ?_
  | with_reducible refine rd_geI ?_
  | with_reducible refine rd_isNo ?_
  | with_reducible refine rd_notNo ?_
  | with_reducible refine cd_lenL ?_
  | with_reducible refine cd_lenT ?_
  | with_reducible refine cd_abs ?_
  | with_reducible refine cd_intI ?_
  | with_reducible refine cd_intB ?_
  | with_reducible refine cd_strS ?_
  | with_reducible refine cd_listT ?_
  | with_reducible refine cd_tupleL ?_
  | with_reducible refine sd_L ?_
  | with_reducible refine sd_T ?_
  | with_reducible refine gd_name ?_
  | ((with_reducible refine' ed_lcL1y ?hv ?_); (case hv => exact rfl))
  | ((with_reducible refine' ed_lcT1y ?hv ?_); (case hv => exact rfl))
  | ((with_reducible refine' ed_lcL1 ?hv ?_); (case hv => exact rfl))
  | ((with_reducible refine' ed_lcT1 ?hv ?_); (case hv => exact rfl))
  | with_reducible refine exB ?_
  | with_reducible refine exI ?_
  | with_reducible refine exS ?_
  | with_reducible refine exL ?_
  | with_reducible refine exT ?_
  | with_reducible refine exLs ?_
  | with_reducible refine exIs ?_
  | with_reducible refine ex2 ?_
  | with_reducible refine ex3 ?_
  | with_reducible refine ln0 ?_
  | with_reducible refine ln1 ?_
  | with_reducible refine ln2 ?_
  | with_reducible refine ln3 ?_
  | with_reducible refine ln4 ?_
  | with_reducible refine ln5 ?_
  | with_reducible refine ln6 ?_
  | with_reducible refine ln7 ?_
  | with_reducible refine ln8 ?_
  | with_reducible refine ln9 ?_
  | with_reducible refine ln10 ?_
  | with_reducible refine ln11 ?_
  | with_reducible refine ln12 ?_
  | with_reducible refine cTT ?_
  | with_reducible refine cFT ?_
  | with_reducible refine cTF ?_
  | with_reducible refine cFF ?_
  | with_reducible refine nTT ?_
  | with_reducible refine nFT ?_
  | with_reducible refine nTF ?_
  | with_reducible refine nFF ?_
  | refine rd_ixT0 ?_
  | refine rd_ixL0 ?_
  | refine rd_ixT rfl ?_
  | refine rd_ixL rfl ?_)
local macro_rules | `(tactic| walk_at "dl") => `(tactic| repeat (walk_at "dl1"))
local macro_rules | `(tactic| walk_at "call1") => `(tactic| ((refine ⟨_, rfl, ?hcd, fun r hr => ?hcr⟩); (case hcd => first | assumption | rfl); (case hcr => (subst hr; try walk_at "dl"))))
local macro_rules | `(tactic| walk_at "and") => `(tactic| (refine ed_andE ?_; try walk_at "dl"))
local macro_rules | `(tactic| walk_at "k") => `(tactic| ((first | refine ct rfl ?_ | refine cf rfl ?_ | refine ct' rfl ?_ | refine cf' rfl ?_); try walk_at "dl"))
def isIntD : PyData → Bool
  | .int _ => true
  | _ => false
def isStrD : PyData → Bool
  | .str _ => true
  | _ => false
def isTupD : PyData → Bool
  | .tuple _ => true
  | _ => false
def isBoolD : PyData → Bool
  | .bool _ => true
  | _ => false
def noDict : PyData → Bool
  | .dict _ => false
  | _ => true
theorem kit_str {d : PyData} (h : noDict d = true) : kitB (tyN d) "str" = some (isStrD d) := by cases d <;> first | (simp only [noDict, Bool.false_eq_true] at h; done) | (simp only [tyN, isStrD, isTupD, isBoolD, isIntD]; decide +kernel)
theorem kit_tuple {d : PyData} (h : noDict d = true) : kitB (tyN d) "tuple" = some (isTupD d) := by cases d <;> first | (simp only [noDict, Bool.false_eq_true] at h; done) | (simp only [tyN, isStrD, isTupD, isBoolD, isIntD]; decide +kernel)
theorem kit_bool {d : PyData} (h : noDict d = true) : kitB (tyN d) "bool" = some (isBoolD d) := by cases d <;> first | (simp only [noDict, Bool.false_eq_true] at h; done) | (simp only [tyN, isStrD, isTupD, isBoolD, isIntD]; decide +kernel)
theorem kit_int {d : PyData} (h : noDict d = true) : kitB (tyN d) "int" = some (isIntD d || isBoolD d) := by cases d <;> first | (simp only [noDict, Bool.false_eq_true] at h; done) | (simp only [tyN, isStrD, isTupD, isBoolD, isIntD]; decide +kernel)
abbrev spIsInteger (K : PySem.W.Frag) : Sp := spP K (fun d : PyData => [d]) (fun d => noDict d = true) (fun d r => r = .bool (isIntD d))
theorem ok_is_integer {P : Program} {w : World} {K : PySem.W.Frag} {mg : PySem.Str → Option Value} {base : Heap} {a : Ads} {d : Fds} (T : Txt K mg a d) : FnOk P w K mg base CX0 1 a.is_integer d.is_integer P_is_integer (spIsInteger K) := by
  refine T.F_is_integer.ok sc_is_integer (fun vs H Q E h => ?_) (fun cdv A outer s H vs Q E hr h => ?_)
  · obtain ⟨vol, x, _, ha, _⟩ := h
    have e := ha.length
    rw [e]
    rfl
  refine ⟨_, (pss_one (ps_ret (pe_and (pe_callB call_isi (by rfl) T.isinstance (by decide +kernel) (pa_cons (pv 0) (pa_cons (pe_bltn (v := .ty "int") (by rfl) T.int (by decide +kernel) rfl) pa_nil))) (pe_one (pe_not (pe_callB call_isi (by rfl) T.isinstance (by decide +kernel) (pa_cons (pv 0) (pa_cons (pe_bltn (v := .ty "bool") (by rfl) T.bool (by decide +kernel) rfl) pa_nil)))))))), run_pure h (fun M x hx => ?_)⟩
  try dsimp only [cxOf, List.map_cons, List.map_nil]
  walk_at "dl"
  refine ⟨_, kit_int hx, ?_⟩
  walk_at "dl"
  refine ⟨fun hc => ?_, fun hc => ?_⟩
  · walk_at "dl"
    refine ⟨_, kit_bool hx, ?_⟩
    walk_at "dl"
    show PyData.bool _ = PyData.bool _
    cases x <;> simp [isIntD, isBoolD] at hc ⊢
  · show PyData.bool _ = PyData.bool _
    cases x <;> simp [isIntD, isBoolD] at hc ⊢
/-- is_from -/
def fromD (lo hi : Int) : PyData → Bool
  | .int i => decide (lo ≤ i) && decide (i ≤ hi)
  | _ => false
abbrev spIsFrom (K : PySem.W.Frag) : Sp := spP K (fun x : PyData × Int × Int => [x.1, .int x.2.1, .int x.2.2]) (fun x => noDict x.1 = true) (fun x r => r = .bool (fromD x.2.1 x.2.2 x.1))
theorem ok_is_from {P : Program} {w : World} {K : PySem.W.Frag} {mg : PySem.Str → Option Value} {base : Heap} {a : Ads} {d : Fds} (T : Txt K mg a d) : FnOk P w K mg base CX0 2 a.is_from d.is_from P_is_from (spIsFrom K) := by
  have G_is_integer := ok_is_integer (P := P) (w := w) (base := base) T
  refine T.F_is_from.ok sc_is_from (fun vs H Q E h => ?_) (fun cdv A outer s H vs Q E hr h => ?_)
  · obtain ⟨vol, x, _, ha, _⟩ := h
    have e := ha.length
    rw [e]
    rfl
  refine ⟨_, (pss_one (ps_ret (pe_and (pe_call G_is_integer (hr.mono (by decide)) rfl T.g_is_integer T.k_is_integer T.b_is_integer .nil pass0 (pa_cons (pv 0) pa_nil)) (pe_one (pe_chain oLeI oLeI (pv 1) (pv 0) (pv 2)))))), run_pure h (fun M x hx => ?_)⟩
  try dsimp only [cxOf, List.map_cons, List.map_nil]
  obtain ⟨v, lo, hi⟩ := x
  walk_at "dl"
  refine ⟨v, rfl, hx, fun r hr => ?_⟩
  subst hr
  walk_at "dl"
  cases v with
  | int n =>
    try refine ct rfl ?_
    walk_at "dl"
    refine ⟨fun hc => ?_, fun hc => ?_⟩
    · walk_at "dl"
      show PyData.bool _ = PyData.bool _
      simp [fromD, of_decide_eq_true hc]
    · show PyData.bool _ = PyData.bool _
      simp [fromD, of_decide_eq_false hc]
  | _ => exact cf rfl rfl
abbrev spIsTupleOf (K : PySem.W.Frag) : Sp := spP K (fun x : PyData × Int => [x.1, .int x.2]) (fun x => noDict x.1 = true) (fun x r => r = .bool (match x.1 with | .tuple xs => decide ((xs.length : Int) = x.2) | _ => false))
theorem okEq_ii {i j : Int} : okEq (.int i) (.int j) := ⟨rfl, rfl, by simp [PyData.depth]⟩
theorem okEq_ss {i j : PySem.Str} : okEq (.str i) (.str j) := ⟨rfl, rfl, by simp [PyData.depth]⟩
theorem ok_is_tuple_of {P : Program} {w : World} {K : PySem.W.Frag} {mg : PySem.Str → Option Value} {base : Heap} {a : Ads} {d : Fds} (T : Txt K mg a d) : FnOk P w K mg base CX0 1 a.is_tuple_of d.is_tuple_of P_is_tuple_of (spIsTupleOf K) := by
  refine T.F_is_tuple_of.ok sc_is_tuple_of (fun vs H Q E h => ?_) (fun cdv A outer s H vs Q E hr h => ?_)
  · obtain ⟨vol, x, _, ha, _⟩ := h
    have e := ha.length
    rw [e]
    rfl
  refine ⟨_, (pss_one (ps_ret (pe_and (pe_callB call_isi (by rfl) T.isinstance (by decide +kernel) (pa_cons (pv 0) (pa_cons (pe_bltn (v := .ty "tuple") (by rfl) T.tuple (by decide +kernel) rfl) pa_nil))) (pe_one (pe_cmpR (oEqP hr.units) (pe_callB cLen (by rfl) T.len (by decide +kernel) (pa_cons (pv 0) pa_nil)) (pv 1) rfl))))), run_pure h (fun M x hx => ?_)⟩
  try dsimp only [cxOf, List.map_cons, List.map_nil]
  obtain ⟨v, n⟩ := x
  walk_at "dl"
  refine ⟨_, kit_tuple hx, ?_⟩
  walk_at "dl"
  cases v with
  | tuple xs =>
    try refine ct rfl ?_
    walk_at "dl"
    refine rd_eqP okEq_ii ?_
    show PyData.bool _ = PyData.bool _
    simp only [PyData.eqv]
    congr 1
  | _ => exact cf rfl rfl
theorem plainAll_strs : ∀ xs : List PySem.Str, PyData.plainAll (xs.map PyData.str) = true
  | [] => rfl
  | x :: xs => by simp [PyData.plainAll, PyData.plain, plainAll_strs xs]
theorem depthAll_strs : ∀ xs : List PySem.Str, PyData.depthAll (xs.map PyData.str) = 0
  | [] => rfl
  | x :: xs => by simp [PyData.depthAll, PyData.depth, depthAll_strs xs]
theorem okIn_strs {s : PySem.Str} {xs : List PySem.Str} : okIn (.str s) (xs.map PyData.str) := ⟨rfl, plainAll_strs xs, by simp [PyData.depth]⟩
theorem eqv_str (x y : PySem.Str) : PyData.eqv (.str x) (.str y) = decide (x = y) := by
  simp only [PyData.eqv]
  by_cases h : x = y
  · simp [h]
  · simp [h]
theorem eqv_int (x y : Int) : PyData.eqv (.int x) (.int y) = decide (x = y) := by
  simp only [PyData.eqv]
  by_cases h : x = y
  · simp [h]
  · simp [h]
theorem any_strs (s : PySem.Str) : ∀ xs : List PySem.Str, ((xs.map PyData.str).any fun e => PyData.eqv e (.str s)) = decide (s ∈ xs)
  | [] => by simp
  | x :: xs => by
    rw [List.map_cons, List.any_cons, any_strs s xs, eqv_str]
    by_cases h : x = s
    · simp [h]
    · simp [h, Ne.symm h]
def wordD (xs : List PySem.Str) : PyData → Bool
  | .str s => decide (s ∈ xs)
  | _ => false
abbrev spIsWord (K : PySem.W.Frag) : Sp := spP K (fun x : PyData × List PySem.Str => [x.1, .tuple (x.2.map PyData.str)]) (fun x => noDict x.1 = true) (fun x r => r = .bool (wordD x.2 x.1))
theorem ok_is_word {P : Program} {w : World} {K : PySem.W.Frag} {mg : PySem.Str → Option Value} {base : Heap} {a : Ads} {d : Fds} (T : Txt K mg a d) : FnOk P w K mg base CX0 1 a.is_word d.is_word P_is_word (spIsWord K) := by
  refine T.F_is_word.ok sc_is_word (fun vs H Q E h => ?_) (fun cdv A outer s H vs Q E hr h => ?_)
  · obtain ⟨vol, x, _, ha, _⟩ := h
    have e := ha.length
    rw [e]
    rfl
  refine ⟨_, (pss_one (ps_ret (pe_and (pe_callB call_isi (by rfl) T.isinstance (by decide +kernel) (pa_cons (pv 0) (pa_cons (pe_bltn (v := .ty "str") (by rfl) T.str (by decide +kernel) rfl) pa_nil))) (pe_one (pe_cmpR (oInP hr.units) (pv 0) (pv 1) rfl))))), run_pure h (fun M x hx => ?_)⟩
  try dsimp only [cxOf, List.map_cons, List.map_nil]
  obtain ⟨v, xs⟩ := x
  walk_at "dl"
  refine ⟨_, kit_str hx, ?_⟩
  walk_at "dl"
  cases v with
  | str s =>
    try refine ct rfl ?_
    walk_at "dl"
    refine rd_inT okIn_strs ?_
    rw [any_strs]
    rfl
  | _ => exact cf rfl rfl
abbrev NMS : List PySem.Str := ["a", "b", "c", "d", "e", "f"]
abbrev SEENS : List PySem.Str := ["longer", "same", "shorter"]
abbrev nameD : PyData → Bool := wordD NMS
abbrev spIsName (K : PySem.W.Frag) : Sp := spP K (fun x : PyData => [x]) (fun x => noDict x = true) (fun x r => r = .bool (nameD x))
theorem ok_is_name {P : Program} {w : World} {K : PySem.W.Frag} {mg : PySem.Str → Option Value} {base : Heap} {a : Ads} {d : Fds} (T : Txt K mg a d) : FnOk P w K mg base CX0 2 a.is_name d.is_name P_is_name (spIsName K) := by
  have G_is_word := ok_is_word (P := P) (w := w) (base := base) T
  refine T.F_is_name.ok sc_is_name (fun vs H Q E h => ?_) (fun cdv A outer s H vs Q E hr h => ?_)
  · obtain ⟨vol, x, _, ha, _⟩ := h
    have e := ha.length
    rw [e]
    rfl
  refine ⟨_, (pss_one (ps_ret (pe_call G_is_word (hr.mono (by decide)) rfl T.g_is_word T.k_is_word T.b_is_word .nil pass0 (pa_cons (pv 0) (pa_cons (pe_globR T.c_NAMES rfl) pa_nil))))), run_pure h (fun M x hx => ?_)⟩
  try dsimp only [cxOf, List.map_cons, List.map_nil]
  walk_at "dl"
  refine ed_ktp T.t_NAMES (fun vol H => DtAll.strs NMS) ?_
  walk_at "dl"
  exact ⟨(x, NMS), rfl, hx, fun d hd => hd⟩
abbrev spIsMark (K : PySem.W.Frag) : Sp := spP K (fun x : PyData => [x]) (fun x => noDict x = true) (fun x r => r = .bool (fromD 3 20 x))
theorem ok_is_mark {P : Program} {w : World} {K : PySem.W.Frag} {mg : PySem.Str → Option Value} {base : Heap} {a : Ads} {d : Fds} (T : Txt K mg a d) : FnOk P w K mg base CX0 3 a.is_mark d.is_mark P_is_mark (spIsMark K) := by
  have G_is_from := ok_is_from (P := P) (w := w) (base := base) T
  refine T.F_is_mark.ok sc_is_mark (fun vs H Q E h => ?_) (fun cdv A outer s H vs Q E hr h => ?_)
  · obtain ⟨vol, x, _, ha, _⟩ := h
    have e := ha.length
    rw [e]
    rfl
  refine ⟨_, (pss_one (ps_ret (pe_call G_is_from (hr.mono (by decide)) rfl T.g_is_from T.k_is_from T.b_is_from .nil pass0 (pa_cons (pv 0) (pa_cons pe_int (pa_cons pe_int pa_nil)))))), run_pure h (fun M x hx => ?_)⟩
  try dsimp only [cxOf, List.map_cons, List.map_nil]
  walk_at "dl"
  exact ⟨(x, 3, 20), rfl, hx, fun d hd => hd⟩
theorem emod_of {a b : Int} (ha : 0 ≤ a) (hb : 0 ≤ b) : a.fmod b = a % b := Int.fmod_eq_emod_of_nonneg a hb
abbrev spCommon (K : PySem.W.Frag) : Sp := spP K (fun x : Int × Int => [.int x.1, .int x.2]) (fun x => 0 ≤ x.1 ∧ 0 ≤ x.2) (fun x r => r = .int (Int.gcd x.1 x.2))
def InvG (a b : Int) (ρ : Rho) : Prop := ∃ c d : Int, ρ = [.dat (.int c), .dat (.int d)] ∧ 0 ≤ c ∧ 0 ≤ d ∧ Int.gcd c d = Int.gcd a b
def muG : Rho → Nat
  | [_, .dat (.int d)] => d.toNat
  | _ => 0
theorem gcd_step {c d : Int} (hc : 0 ≤ c) (hd : 0 ≤ d) : Int.gcd d (c % d) = Int.gcd c d := by
  have h : ((c % d).natAbs) = c.natAbs % d.natAbs := Int.natAbs_emod_of_nonneg hc d
  show Nat.gcd d.natAbs (c % d).natAbs = Nat.gcd c.natAbs d.natAbs
  rw [h, Nat.gcd_comm c.natAbs, Nat.gcd_rec d.natAbs c.natAbs, Nat.gcd_comm]
theorem ok_common {P : Program} {w : World} {K : PySem.W.Frag} {mg : PySem.Str → Option Value} {base : Heap} {a : Ads} {d : Fds} (T : Txt K mg a d) : FnOk P w K mg base CX0 1 a.common d.common P_common (spCommon K) := by
  refine T.F_common.ok sc_common (fun vs H Q E h => ?_) (fun cdv A outer s H vs Q E hr h => ?_)
  · obtain ⟨vol, x, _, ha, _⟩ := h
    have e := ha.length
    rw [e]
    rfl
  refine ⟨_, (pss_cons (ps_while PassesOwn.never (pt_cmpR oGtI (pv 1) pe_int rfl) (pss_one (ps_par rfl sc_common.nd (i := 0) (j := 1) rfl rfl (by decide) rfl rfl (pa_cons (pv 1) (pa_cons (pe_op oModI (pv 0) (pv 1)) pa_nil)) rfl))) (pss_one (ps_ret (pv 0)))), run_pure h (fun M x hx => ?_)⟩
  try dsimp only [cxOf, List.map_cons, List.map_nil]
  obtain ⟨a, b⟩ := x
  walk_at "dl"
  refine sd_while (InvG a b) muG ⟨a, b, rfl, hx.1, hx.2, rfl⟩ (fun ρ' hI => ?_)
  obtain ⟨c, d', rfl, hc, hd, hg⟩ := hI
  walk_at "dl"
  refine ⟨fun hb => ?_, fun hb => ?_⟩
  · have hb' : 0 < d' := of_decide_eq_true hb
    walk_at "dl"
    refine rd_modI (by omega) ?_
    walk_at "dl"
    have e := emod_of hc hd
    rw [e]
    have h1 := Int.emod_nonneg c (show d' ≠ 0 by omega)
    have h2 := Int.emod_lt_of_pos c hb'
    refine ⟨⟨d', c % d', rfl, hd, h1, (gcd_step hc hd).trans hg⟩, ?_⟩
    show (c % d').toNat < d'.toNat
    omega
  · have hb' : ¬ 0 < d' := of_decide_eq_false hb
    walk_at "dl"
    have e0 : d' = 0 := by omega
    subst e0
    have : Int.gcd a b = c := by rw [← hg, Int.gcd_zero_right]; omega
    show PyData.int c = PyData.int _
    rw [← this]
end CL
set_option Elab.async false
set_option linter.all false
set_option maxRecDepth 100000
set_option maxHeartbeats 2000000
namespace CL
open PySem L2 DL
local macro_rules | `(tactic| walk_at "dl1") => `(tactic| first
  | ((with_reducible refine' ed_var ?hv ?_); (case hv => exact rfl))
  | with_reducible refine ed_int ?_
  | with_reducible refine ed_str ?_
  | with_reducible refine ed_bl ?_
  | with_reducible refine ed_non ?_
  | with_reducible refine ed_op ?_
  | with_reducible refine ea_cons ?_
  | with_reducible refine ea_nil ?_
  | with_reducible refine ed_isi ?_
  | with_reducible refine ed_cb ?_
  | with_reducible refine ed_call ?_
  | with_reducible refine ed_tup ?_
  | with_reducible refine ed_lst ?_
  | with_reducible refine ed_andV ?_
  | with_reducible refine ed_orV ?_
  | with_reducible refine ed_notV ?_
  | with_reducible refine ed_chain ?_
  | with_reducible refine ed_if ?_
  | with_reducible refine ed_un ?_
  | with_reducible refine ed_sl ?_
  | with_reducible refine ed_revL ?_
  | with_reducible refine ed_m1 ?_
  | with_reducible refine eo_no ?_
  | with_reducible refine eo_some ?_
  | with_reducible refine et_test ?_
  | with_reducible refine et_B ?_
  | with_reducible refine et_and ?_
  | with_reducible refine et_or ?_
  | with_reducible refine et_not ?_
  | with_reducible refine et_yes ?_
  | with_reducible refine sd_seq ?_
  | with_reducible refine sd_next ?_
  | with_reducible refine sd_set ?_
  | with_reducible refine sd_ret ?_
  | with_reducible refine sd_drop ?_
  | with_reducible refine sd_if ?_
  | with_reducible refine sd_par ?_
  | with_reducible refine sd_par3 ?_
  | with_reducible refine rd_addI ?_
  | with_reducible refine rd_subI ?_
  | with_reducible refine rd_ltI ?_
  | with_reducible refine rd_leI ?_
  | with_reducible refine rd_gtI ?_
  | with_reducible refine rd_geI ?_
  | with_reducible refine rd_isNo ?_
  | with_reducible refine rd_notNo ?_
  | with_reducible refine cd_lenL ?_
  | with_reducible refine cd_lenT ?_
  | with_reducible refine cd_abs ?_
  | with_reducible refine cd_intI ?_
  | with_reducible refine cd_intB ?_
  | with_reducible refine cd_strS ?_
  | with_reducible refine cd_listT ?_
  | with_reducible refine cd_tupleL ?_
  | with_reducible refine sd_L ?_
  | with_reducible refine sd_T ?_
  | with_reducible refine gd_name ?_
  | ((with_reducible refine' ed_lcL1y ?hv ?_); (case hv => exact rfl))
  | ((with_reducible refine' ed_lcT1y ?hv ?_); (case hv => exact rfl))
  | ((with_reducible refine' ed_lcL1 ?hv ?_); (case hv => exact rfl))
  | ((with_reducible refine' ed_lcT1 ?hv ?_); (case hv => exact rfl))
  | with_reducible refine exB ?_
  | with_reducible refine exI ?_
  | with_reducible refine exS ?_
  | with_reducible refine exL ?_
  | with_reducible refine exT ?_
  | with_reducible refine exLs ?_
  | with_reducible refine exIs ?_
  | with_reducible refine ex2 ?_
  | with_reducible refine ex3 ?_
  | with_reducible refine ln0 ?_
  | with_reducible refine ln1 ?_
  | with_reducible refine ln2 ?_
  | with_reducible refine ln3 ?_
  | with_reducible refine ln4 ?_
  | with_reducible refine ln5 ?_
  | with_reducible refine ln6 ?_
  | with_reducible refine ln7 ?_
  | with_reducible refine ln8 ?_
  | with_reducible refine ln9 ?_
  | with_reducible refine ln10 ?_
  | with_reducible refine ln11 ?_
  | with_reducible refine ln12 ?_
  | with_reducible refine cTT ?_
  | with_reducible refine cFT ?_
  | with_reducible refine cTF ?_
  | with_reducible refine cFF ?_
  | with_reducible refine nTT ?_
  | with_reducible refine nFT ?_
  | with_reducible refine nTF ?_
  | with_reducible refine nFF ?_
  | refine rd_ixT0 ?_
  | refine rd_ixL0 ?_
  | refine rd_ixT rfl ?_
  | refine rd_ixL rfl ?_)
local macro_rules | `(tactic| walk_at "dl") => `(tactic| repeat (walk_at "dl1"))
local macro_rules | `(tactic| walk_at "call1") => `(tactic| ((refine ⟨_, rfl, ?hcd, fun r hr => ?hcr⟩); (case hcd => first | assumption | rfl); (case hcr => (subst hr; try walk_at "dl"))))
local macro_rules | `(tactic| walk_at "and") => `(tactic| (refine ed_andE ?_; try walk_at "dl"))
local macro_rules | `(tactic| walk_at "k") => `(tactic| ((first | refine ct rfl ?_ | refine cf rfl ?_ | refine ct' rfl ?_ | refine cf' rfl ?_); try walk_at "dl"))
/-! ### fractions, worlds -/
def fr (p : Int × Int) : PyData := .tuple [.int p.1, .int p.2]
def lowP (n d : Int) : Int × Int := (n / (Int.gcd n d : Int), d / (Int.gcd n d : Int))
theorem gcd_pos {n d : Int} (hd : 0 < d) : 0 < (Int.gcd n d : Int) := by
  have := Int.gcd_pos_of_ne_zero_right n (show d ≠ 0 by omega)
  omega
theorem gcd_le {n d : Int} (hd : 0 < d) : (Int.gcd n d : Int) ≤ d := Int.le_of_dvd hd (Int.gcd_dvd_right ..)
abbrev Small (n d : Int) : Prop := 0 ≤ n ∧ 0 < d ∧ d ≤ 1000000
abbrev spLowest (K : PySem.W.Frag) : Sp := spP K (fun x : Int × Int => [.int x.1, .int x.2]) (fun x => Small x.1 x.2) (fun x r => r = fr (lowP x.1 x.2))
theorem ok_lowest {P : Program} {w : World} {K : PySem.W.Frag} {mg : PySem.Str → Option Value} {base : Heap} {a : Ads} {d : Fds} (T : Txt K mg a d) : FnOk P w K mg base CX0 2 a.lowest d.lowest P_lowest (spLowest K) := by
  have G_common := ok_common (P := P) (w := w) (base := base) T
  refine T.F_lowest.ok sc_lowest (fun vs H Q E h => ?_) (fun cdv A outer s H vs Q E hr h => ?_)
  · obtain ⟨vol, x, _, ha, _⟩ := h
    have e := ha.length
    rw [e]
    rfl
  refine ⟨_, (pss_cons (ps_if (pt_cmpR oLtI (pv 1) pe_int rfl) (pss_one (ps_par rfl sc_lowest.nd (i := 0) (j := 1) rfl rfl (by decide) rfl rfl (pa_cons (pe_op oSubI pe_int (pv 0)) (pa_cons (pe_op oSubI pe_int (pv 1)) pa_nil)) rfl)) pss_nil) (pss_cons (ps_set (i := 2) sc_lowest.nd rfl (Or.inl rfl) (pe_call G_common (hr.mono (by decide)) rfl T.g_common T.k_common T.b_common .nil pass0 (pa_cons (pe_callB cAbs (by rfl) T.abs (by decide +kernel) (pa_cons (pv 0) pa_nil)) (pa_cons (pv 1) pa_nil)))) (pss_one (ps_ret (pe_tup (pa_cons (pe_op oDivI (pv 0) (pv 2)) (pa_cons (pe_op oDivI (pv 1) (pv 2)) pa_nil))))))), run_pure h (fun M x hx => ?_)⟩
  try dsimp only [cxOf, List.map_cons, List.map_nil]
  obtain ⟨n, e⟩ := x
  obtain ⟨h0, h1, h2⟩ := hx
  walk_at "dl"
  refine cf (decide_eq_false (by show ¬ e < 0; have : 0 < e := h1; omega)) ?_
  walk_at "dl"
  have hn : (if n < 0 then -n else n) = n := by have : 0 ≤ n := h0; rw [if_neg (by omega)]
  refine ⟨(n, e), by rw [hn], ⟨h0, by have : 0 < e := h1; show 0 ≤ e; omega⟩, fun r hr => ?_⟩
  subst hr
  walk_at "dl"
  have gp := gcd_pos (n := n) (d := e) h1
  have gl := gcd_le (n := n) (d := e) h1
  have cd : CDivN n (Int.gcd n e) := ⟨by omega, by have : e ≤ 1000000 := h2; show ((Int.gcd n e : Int)).natAbs < 1073741824; omega⟩
  have cd2 : CDivN e (Int.gcd n e) := ⟨cd.1, cd.2⟩
  refine rd_divI cd ?_
  walk_at "dl"
  refine rd_divI cd2 ?_
  walk_at "dl"
  show PyData.tuple _ = PyData.tuple _
  rw [Int.fdiv_eq_ediv_of_nonneg _ (by omega : (0 : Int) ≤ (Int.gcd n e : Int)), Int.fdiv_eq_ediv_of_nonneg _ (by omega : (0 : Int) ≤ (Int.gcd n e : Int))]
  rfl
abbrev Sm64 (i : Int) : Prop := -1000000000000 ≤ i ∧ i ≤ 1000000000000
theorem cmul_of {i j : Int} (h : Sm64 i) : CMul i j := .inl ⟨by have := h.1; omega, by have := h.2; omega⟩
abbrev ltP (p q : Int × Int) : Bool := decide (p.1 * q.2 < q.1 * p.2)
abbrev spIsLess (K : PySem.W.Frag) : Sp := spP K (fun x : (Int × Int) × (Int × Int) => [fr x.1, fr x.2]) (fun x => Sm64 x.1.1 ∧ Sm64 x.2.1) (fun x r => r = .bool (ltP x.1 x.2))
theorem ok_is_less {P : Program} {w : World} {K : PySem.W.Frag} {mg : PySem.Str → Option Value} {base : Heap} {a : Ads} {d : Fds} (T : Txt K mg a d) : FnOk P w K mg base CX0 1 a.is_less d.is_less P_is_less (spIsLess K) := by
  refine T.F_is_less.ok sc_is_less (fun vs H Q E h => ?_) (fun cdv A outer s H vs Q E hr h => ?_)
  · obtain ⟨vol, x, _, ha, _⟩ := h
    have e := ha.length
    rw [e]
    rfl
  refine ⟨_, (pss_one (ps_ret (pe_cmpR oLtI (pe_op oMulI (pe_ix ixTu (pv 0) pe_int (fun _ _ => rfl)) (pe_ix ixTu (pv 1) pe_int (fun _ _ => rfl))) (pe_op oMulI (pe_ix ixTu (pv 1) pe_int (fun _ _ => rfl)) (pe_ix ixTu (pv 0) pe_int (fun _ _ => rfl))) rfl))), run_pure h (fun M x hx => ?_)⟩
  try dsimp only [cxOf, List.map_cons, List.map_nil]
  obtain ⟨⟨a1, b1⟩, a2, b2⟩ := x
  walk_at "dl"
  walk_at "dl"
  walk_at "dl"
  refine rd_mulI (cmul_of hx.1) ?_
  walk_at "dl"
  walk_at "dl"
  walk_at "dl"
  refine rd_mulI (cmul_of hx.2) ?_
  walk_at "dl"
  rfl
/-- a fraction in lowest terms, small -/
structure GoodFr (p : Int × Int) : Prop where
  n0 : 0 ≤ p.1
  n1 : p.1 ≤ 100000
  d0 : 1 ≤ p.2
  d1 : p.2 ≤ 100
  g : Int.gcd p.1 p.2 = 1
theorem GoodFr.low {p : Int × Int} (h : GoodFr p) : lowP p.1 p.2 = p := by
  unfold lowP
  rw [h.g]
  simp
theorem okEq_fr {p q : Int × Int} : okEq (fr p) (fr q) := ⟨rfl, rfl, by simp [fr, PyData.depth, PyData.depthAll]⟩
theorem eqv_fr (p : Int × Int) : PyData.eqv (fr p) (fr p) = true := by simp [fr, PyData.eqv, PyData.eqvAll]
abbrev spIsAnyFraction (K : PySem.W.Frag) : Sp := spP K (fun x : Int × Int => [fr x]) GoodFr (fun x r => r = .bool true)
theorem ok_is_any_fraction {P : Program} {w : World} {K : PySem.W.Frag} {mg : PySem.Str → Option Value} {base : Heap} {a : Ads} {d : Fds} (T : Txt K mg a d) : FnOk P w K mg base CX0 3 a.is_any_fraction d.is_any_fraction P_is_any_fraction (spIsAnyFraction K) := by
  have G_lowest := ok_lowest (P := P) (w := w) (base := base) T
  have G_is_tuple_of := ok_is_tuple_of (P := P) (w := w) (base := base) T
  have G_is_integer := ok_is_integer (P := P) (w := w) (base := base) T
  refine T.F_is_any_fraction.ok sc_is_any_fraction (fun vs H Q E h => ?_) (fun cdv A outer s H vs Q E hr h => ?_)
  · obtain ⟨vol, x, _, ha, _⟩ := h
    have e := ha.length
    rw [e]
    rfl
  refine ⟨_, (pss_cons (ps_if (PW.pt (pw_or (pt_not (pt_val (pe_call G_is_tuple_of (hr.mono (by decide)) rfl T.g_is_tuple_of T.k_is_tuple_of T.b_is_tuple_of .nil pass0 (pa_cons (pv 0) (pa_cons pe_int pa_nil))))) (pw_or (pt_not (pt_val (pe_call G_is_integer (hr.mono (by decide)) rfl T.g_is_integer T.k_is_integer T.b_is_integer .nil pass0 (pa_cons (pe_ix ixTu (pv 0) pe_int (fun _ _ => rfl)) pa_nil)))) (pw_or (pt_not (pt_val (pe_call G_is_integer (hr.mono (by decide)) rfl T.g_is_integer T.k_is_integer T.b_is_integer .nil pass0 (pa_cons (pe_ix ixTu (pv 0) pe_int (fun _ _ => rfl)) pa_nil)))) (pw_or1 (pt_cmpR oLtI (pe_ix ixTu (pv 0) pe_int (fun _ _ => rfl)) pe_int rfl)))))) (pss_one (ps_ret pe_bl)) pss_nil) (pss_one (ps_ret (pe_cmpR (oEqP hr.units) (pe_call G_lowest (hr.mono (by decide)) rfl T.g_lowest T.k_lowest T.b_lowest .nil pass0 (pa_cons (pe_ix ixTu (pv 0) pe_int (fun _ _ => rfl)) (pa_cons (pe_ix ixTu (pv 0) pe_int (fun _ _ => rfl)) pa_nil))) (pv 0) rfl)))), run_pure h (fun M x hx => ?_)⟩
  try dsimp only [cxOf, List.map_cons, List.map_nil]
  walk_at "dl"
  refine ⟨(fr x, 2), rfl, rfl, fun r hr => ?_⟩
  subst hr
  walk_at "dl"
  try refine ct' rfl ?_
  walk_at "dl"
  walk_at "dl"
  refine ⟨.int x.1, rfl, rfl, fun r hr => ?_⟩
  subst hr
  walk_at "dl"
  try refine ct' rfl ?_
  walk_at "dl"
  walk_at "dl"
  refine ⟨.int x.2, rfl, rfl, fun r hr => ?_⟩
  subst hr
  walk_at "dl"
  try refine ct' rfl ?_
  walk_at "dl"
  walk_at "dl"
  refine cf (decide_eq_false (by have := hx.d0; omega)) ?_
  walk_at "dl"
  walk_at "dl"
  walk_at "dl"
  refine ⟨x, rfl, ⟨hx.n0, by have := hx.d0; omega, by have := hx.d1; omega⟩, fun r hr => ?_⟩
  subst hr
  rw [hx.low]
  walk_at "dl"
  refine rd_eqP okEq_fr ?_
  show PyData.bool _ = PyData.bool true
  rw [eqv_fr]
abbrev spIsFraction (K : PySem.W.Frag) : Sp := spP K (fun x : Int × Int => [fr x, .int (10 ^ 30)]) GoodFr (fun x r => r = .bool true)
theorem ok_is_fraction {P : Program} {w : World} {K : PySem.W.Frag} {mg : PySem.Str → Option Value} {base : Heap} {a : Ads} {d : Fds} (T : Txt K mg a d) : FnOk P w K mg base CX0 4 a.is_fraction d.is_fraction P_is_fraction (spIsFraction K) := by
  have G_is_any_fraction := ok_is_any_fraction (P := P) (w := w) (base := base) T
  refine T.F_is_fraction.ok sc_is_fraction (fun vs H Q E h => ?_) (fun cdv A outer s H vs Q E hr h => ?_)
  · obtain ⟨vol, x, _, ha, _⟩ := h
    have e := ha.length
    rw [e]
    rfl
  refine ⟨_, (pss_one (ps_ret (pe_and (pe_call G_is_any_fraction (hr.mono (by decide)) rfl T.g_is_any_fraction T.k_is_any_fraction T.b_is_any_fraction .nil pass0 (pa_cons (pv 0) pa_nil)) (pe_and (pe_cmpR oLeI (pe_callB cAbs (by rfl) T.abs (by decide +kernel) (pa_cons (pe_ix ixTu (pv 0) pe_int (fun _ _ => rfl)) pa_nil)) (pv 1) rfl) (pe_one (pe_cmpR oLeI (pe_ix ixTu (pv 0) pe_int (fun _ _ => rfl)) (pv 1) rfl)))))), run_pure h (fun M x hx => ?_)⟩
  try dsimp only [cxOf, List.map_cons, List.map_nil]
  walk_at "dl"
  refine ⟨x, rfl, hx, fun r hr => ?_⟩
  subst hr
  walk_at "dl"
  try refine ct rfl ?_
  walk_at "dl"
  walk_at "dl"
  have h1 := hx.n0
  have h2 := hx.n1
  have h3 := hx.d1
  refine ct (decide_eq_true (by rw [if_neg (by omega)]; omega)) ?_
  walk_at "dl"
  walk_at "dl"
  show PyData.bool _ = PyData.bool true
  rw [decide_eq_true (show x.2 ≤ 10 ^ 30 by omega)]
def pr (x : (Int × Int) × (Int × Int)) : PyData := .tuple [fr x.1, fr x.2]
structure GoodPr (lo hi : Int × Int) (x : (Int × Int) × (Int × Int)) : Prop where
  a : GoodFr x.1
  b : GoodFr x.2
  ab : ltP x.2 x.1 = false
  la : ltP x.1 lo = false
  bh : ltP hi x.2 = false
theorem GoodFr.sm {p : Int × Int} (h : GoodFr p) : Sm64 p.1 := ⟨by have := h.n0; omega, by have := h.n1; omega⟩
abbrev spAreBounds (K : PySem.W.Frag) : Sp := spP K (fun x : ((Int × Int) × (Int × Int)) × (Int × Int) × (Int × Int) => [pr x.1, fr x.2.1, fr x.2.2]) (fun x => GoodPr x.2.1 x.2.2 x.1 ∧ Sm64 x.2.1.1 ∧ Sm64 x.2.2.1) (fun x r => r = .bool true)
theorem ok_are_bounds {P : Program} {w : World} {K : PySem.W.Frag} {mg : PySem.Str → Option Value} {base : Heap} {a : Ads} {d : Fds} (T : Txt K mg a d) : FnOk P w K mg base CX0 5 a.are_bounds d.are_bounds P_are_bounds (spAreBounds K) := by
  have G_is_less := ok_is_less (P := P) (w := w) (base := base) T
  have G_is_tuple_of := ok_is_tuple_of (P := P) (w := w) (base := base) T
  have G_is_fraction := ok_is_fraction (P := P) (w := w) (base := base) T
  refine T.F_are_bounds.ok sc_are_bounds (fun vs H Q E h => ?_) (fun cdv A outer s H vs Q E hr h => ?_)
  · obtain ⟨vol, x, _, ha, _⟩ := h
    have e := ha.length
    rw [e]
    rfl
  refine ⟨_, (pss_cons (ps_if (PW.pt (pw_or (pt_not (pt_val (pe_call G_is_tuple_of (hr.mono (by decide)) rfl T.g_is_tuple_of T.k_is_tuple_of T.b_is_tuple_of .nil pass0 (pa_cons (pv 0) (pa_cons pe_int pa_nil))))) (pw_or (pt_not (pt_val (pe_call G_is_fraction (hr.mono (by decide)) rfl T.g_is_fraction T.k_is_fraction T.b_is_fraction .nil pass0 (pa_cons (pe_ix ixTu (pv 0) pe_int (fun _ _ => rfl)) (pa_cons (pe_globI T.c_MOST_PART rfl) pa_nil))))) (pw_or1 (pt_not (pt_val (pe_call G_is_fraction (hr.mono (by decide)) rfl T.g_is_fraction T.k_is_fraction T.b_is_fraction .nil pass0 (pa_cons (pe_ix ixTu (pv 0) pe_int (fun _ _ => rfl)) (pa_cons (pe_globI T.c_MOST_PART rfl) pa_nil))))))))) (pss_one (ps_ret pe_bl)) pss_nil) (pss_cons (ps_if (PW.pt (pw_or (pt_cmpR oGtI (pe_ix ixTu (pe_ix ixTu (pv 0) pe_int (fun _ _ => rfl)) pe_int (fun _ _ => rfl)) pe_int rfl) (pw_or (pt_cmpR oGtI (pe_ix ixTu (pe_ix ixTu (pv 0) pe_int (fun _ _ => rfl)) pe_int (fun _ _ => rfl)) pe_int rfl) (pw_or1 (pt_val (pe_call G_is_less (hr.mono (by decide)) rfl T.g_is_less T.k_is_less T.b_is_less .nil pass0 (pa_cons (pe_ix ixTu (pv 0) pe_int (fun _ _ => rfl)) (pa_cons (pe_ix ixTu (pv 0) pe_int (fun _ _ => rfl)) pa_nil)))))))) (pss_one (ps_ret pe_bl)) pss_nil) (pss_one (ps_ret (pe_and (pe_not (pe_call G_is_less (hr.mono (by decide)) rfl T.g_is_less T.k_is_less T.b_is_less .nil pass0 (pa_cons (pe_ix ixTu (pv 0) pe_int (fun _ _ => rfl)) (pa_cons (pv 1) pa_nil)))) (pe_one (pe_not (pe_call G_is_less (hr.mono (by decide)) rfl T.g_is_less T.k_is_less T.b_is_less .nil pass0 (pa_cons (pv 2) (pa_cons (pe_ix ixTu (pv 0) pe_int (fun _ _ => rfl)) pa_nil)))))))))), run_pure h (fun M x hx => ?_)⟩
  try dsimp only [cxOf, List.map_cons, List.map_nil]
  obtain ⟨⟨p, q⟩, lo, hi⟩ := x
  obtain ⟨g, hlo, hhi⟩ := hx
  walk_at "dl"
  refine ⟨(pr (p, q), 2), rfl, rfl, fun r hr => ?_⟩
  subst hr
  walk_at "dl"
  try refine ct' rfl ?_
  walk_at "dl"
  walk_at "dl"
  refine ⟨p, rfl, g.a, fun r hr => ?_⟩
  subst hr
  walk_at "dl"
  try refine ct' rfl ?_
  walk_at "dl"
  walk_at "dl"
  refine ⟨q, rfl, g.b, fun r hr => ?_⟩
  subst hr
  walk_at "dl"
  try refine cf rfl ?_
  walk_at "dl"
  walk_at "dl"
  walk_at "dl"
  have h1 : p.2 ≤ 100 := g.a.d1
  have h2 : q.2 ≤ 100 := g.b.d1
  refine ct' (decide_eq_false (by show ¬ 100 < p.2; omega)) ?_
  walk_at "dl"
  walk_at "dl"
  walk_at "dl"
  refine ct' (decide_eq_false (by show ¬ 100 < q.2; omega)) ?_
  walk_at "dl"
  walk_at "dl"
  walk_at "dl"
  refine ⟨(q, p), rfl, ⟨g.b.sm, g.a.sm⟩, fun r hr => ?_⟩
  subst hr
  walk_at "dl"
  refine cf g.ab ?_
  walk_at "dl"
  walk_at "dl"
  refine ⟨(p, lo), rfl, ⟨g.a.sm, hlo⟩, fun r hr => ?_⟩
  subst hr
  walk_at "dl"
  refine ct (by rw [g.la]; rfl) ?_
  walk_at "dl"
  walk_at "dl"
  refine ⟨(hi, q), rfl, ⟨hhi, g.b.sm⟩, fun r hr => ?_⟩
  subst hr
  walk_at "dl"
  show PyData.bool _ = PyData.bool true
  rw [g.bh]
  rfl
theorem sm_0 : Sm64 0 := ⟨by decide, by decide⟩
theorem sm_1 : Sm64 1 := ⟨by decide, by decide⟩
theorem sm_2 : Sm64 2 := ⟨by decide, by decide⟩
theorem sm_49 : Sm64 49 := ⟨by decide, by decide⟩
theorem sm_51 : Sm64 51 := ⟨by decide, by decide⟩
abbrev Pr := (Int × Int) × (Int × Int)
def tp (x : Pr × Pr) : PyData := .tuple [pr x.1, pr x.2]
abbrev GoodTape (x : Pr × Pr) : Prop := GoodPr (0, 1) (2, 1) x.1 ∧ GoodPr (49, 50) (51, 50) x.2
abbrev spIsTape (K : PySem.W.Frag) : Sp := spP K (fun x : Pr × Pr => [tp x]) GoodTape (fun x r => r = .bool true)
theorem ok_is_tape {P : Program} {w : World} {K : PySem.W.Frag} {mg : PySem.Str → Option Value} {base : Heap} {a : Ads} {d : Fds} (T : Txt K mg a d) : FnOk P w K mg base CX0 6 a.is_tape d.is_tape P_is_tape (spIsTape K) := by
  have G_is_tuple_of := ok_is_tuple_of (P := P) (w := w) (base := base) T
  have G_are_bounds := ok_are_bounds (P := P) (w := w) (base := base) T
  refine T.F_is_tape.ok sc_is_tape (fun vs H Q E h => ?_) (fun cdv A outer s H vs Q E hr h => ?_)
  · obtain ⟨vol, x, _, ha, _⟩ := h
    have e := ha.length
    rw [e]
    rfl
  refine ⟨_, (pss_one (ps_ret (pe_and (pe_call G_is_tuple_of (hr.mono (by decide)) rfl T.g_is_tuple_of T.k_is_tuple_of T.b_is_tuple_of .nil pass0 (pa_cons (pv 0) (pa_cons pe_int pa_nil))) (pe_and (pe_call G_are_bounds (hr.mono (by decide)) rfl T.g_are_bounds T.k_are_bounds T.b_are_bounds .nil pass0 (pa_cons (pe_ix ixTu (pv 0) pe_int (fun _ _ => rfl)) (pa_cons (pe_tup (pa_cons pe_int (pa_cons pe_int pa_nil))) (pa_cons (pe_tup (pa_cons pe_int (pa_cons pe_int pa_nil))) pa_nil)))) (pe_one (pe_call G_are_bounds (hr.mono (by decide)) rfl T.g_are_bounds T.k_are_bounds T.b_are_bounds .nil pass0 (pa_cons (pe_ix ixTu (pv 0) pe_int (fun _ _ => rfl)) (pa_cons (pe_tup (pa_cons pe_int (pa_cons pe_int pa_nil))) (pa_cons (pe_tup (pa_cons pe_int (pa_cons pe_int pa_nil))) pa_nil))))))))), run_pure h (fun M x hx => ?_)⟩
  try dsimp only [cxOf, List.map_cons, List.map_nil]
  obtain ⟨u, v⟩ := x
  walk_at "dl"
  refine ⟨(tp (u, v), 2), rfl, rfl, fun r hr => ?_⟩
  subst hr
  walk_at "dl"
  try refine ct rfl ?_
  walk_at "dl"
  walk_at "dl"
  refine ⟨(u, (0, 1), (2, 1)), rfl, ⟨hx.1, sm_0, sm_2⟩, fun r hr => ?_⟩
  subst hr
  walk_at "dl"
  try refine ct rfl ?_
  walk_at "dl"
  walk_at "dl"
  refine ⟨(v, (49, 50), (51, 50)), rfl, ⟨hx.2, sm_49, sm_51⟩, fun r hr => ?_⟩
  subst hr
  rfl

structure Wd where
  tapes : List (Pr × Pr)
  pencil : Pr
  saw : Pr
def Wd.d (W : Wd) : PyData := .tuple [.tuple (W.tapes.map tp), pr W.pencil, pr W.saw]
structure GoodWd (W : Wd) : Prop where
  len : W.tapes.length = 1 ∨ W.tapes.length = 2
  tapes : ∀ t ∈ W.tapes, GoodTape t
  pencil : GoodPr (0, 1) (1, 2) W.pencil
  saw : GoodPr (0, 1) (1, 2) W.saw
abbrev spIsWorld (K : PySem.W.Frag) : Sp := spP K (fun W : Wd => [W.d]) GoodWd (fun x r => r = .bool true)
theorem filter_true {α : Type} (l : List α) : l.filter (fun _ => true) = l := List.filter_eq_self.mpr fun _ _ => rfl
theorem all_true : ∀ {α : Type} (l : List α), (l.map fun _ => true).all id = true
  | _, [] => rfl
  | α, _ :: l => by rw [List.map_cons, List.all_cons, all_true l]; rfl
theorem okIn_i {n : Int} {xs : List Int} : okIn (.int n) (xs.map PyData.int) := ⟨rfl, by induction xs with | nil => rfl | cons a l ih => simp [PyData.plainAll, PyData.plain, ih], by simp [PyData.depth]⟩
theorem any_ints (s : Int) : ∀ xs : List Int, ((xs.map PyData.int).any fun e => PyData.eqv e (.int s)) = decide (s ∈ xs)
  | [] => by simp
  | x :: xs => by
    rw [List.map_cons, List.any_cons, any_ints s xs, eqv_int]
    by_cases h : x = s
    · simp [h]
    · simp [h, Ne.symm h]
theorem ok_is_world {P : Program} {w : World} {K : PySem.W.Frag} {mg : PySem.Str → Option Value} {base : Heap} {a : Ads} {d : Fds} (T : Txt K mg a d) : FnOk P w K mg base CX0 7 a.is_world d.is_world P_is_world (spIsWorld K) := by
  have G_are_bounds := ok_are_bounds (P := P) (w := w) (base := base) T
  have G_is_tuple_of := ok_is_tuple_of (P := P) (w := w) (base := base) T
  have G_is_tape := ok_is_tape (P := P) (w := w) (base := base) T
  refine T.F_is_world.ok sc_is_world (fun vs H Q E h => ?_) (fun cdv A outer s H vs Q E hr h => ?_)
  · obtain ⟨vol, x, _, ha, _⟩ := h
    have e := ha.length
    rw [e]
    rfl
  refine ⟨_, (pss_cons (ps_if (PW.pt (pw_or (pt_not (pt_val (pe_call G_is_tuple_of (hr.mono (by decide)) rfl T.g_is_tuple_of T.k_is_tuple_of T.b_is_tuple_of .nil pass0 (pa_cons (pv 0) (pa_cons pe_int pa_nil))))) (pw_or (pt_not (pt_val (pe_callB call_isi (by rfl) T.isinstance (by decide +kernel) (pa_cons (pe_ix ixTu (pv 0) pe_int (fun _ _ => rfl)) (pa_cons (pe_bltn (v := .ty "tuple") (by rfl) T.tuple (by decide +kernel) rfl) pa_nil))))) (pw_or1 (pt_cmpR (oNotInP hr.units) (pe_callB cLen (by rfl) T.len (by decide +kernel) (pa_cons (pe_ix ixTu (pv 0) pe_int (fun _ _ => rfl)) pa_nil)) (pe_tup (pa_cons pe_int (pa_cons pe_int pa_nil))) rfl))))) (pss_one (ps_ret pe_bl)) pss_nil) (pss_cons (ps_if (pt_not (pt_val (pe_callB (cAll rfl) (by rfl) T.all (by decide +kernel) (pa_cons (pe_lc (own := [("tape", 1)]) (g := gName 1) rfl sc_is_world.nd (pi_tup (pe_ix ixTu (pv 0) pe_int (fun _ _ => rfl))) (blkOk_by (own := [("tape", 1)]) (N := N_is_world) (sc := defScope s_is_world) (by decide +kernel)) (fun _ _ _ _ _ => pg_name (i := 1) sc_is_world.nd rfl (Or.inl rfl)) (fun _ _ _ _ _ => pts_nil) (fun _ _ _ _ _ => (pe_call G_is_tape (hr.mono (by decide)) rfl T.g_is_tape T.k_is_tape T.b_is_tape .nil pass0 (pa_cons (pv 1) pa_nil)))) pa_nil)))) (pss_one (ps_ret pe_bl)) pss_nil) (pss_one (ps_ret (pe_and (pe_call G_are_bounds (hr.mono (by decide)) rfl T.g_are_bounds T.k_are_bounds T.b_are_bounds .nil pass0 (pa_cons (pe_ix ixTu (pv 0) pe_int (fun _ _ => rfl)) (pa_cons (pe_tup (pa_cons pe_int (pa_cons pe_int pa_nil))) (pa_cons (pe_tup (pa_cons pe_int (pa_cons pe_int pa_nil))) pa_nil)))) (pe_one (pe_call G_are_bounds (hr.mono (by decide)) rfl T.g_are_bounds T.k_are_bounds T.b_are_bounds .nil pass0 (pa_cons (pe_ix ixTu (pv 0) pe_int (fun _ _ => rfl)) (pa_cons (pe_tup (pa_cons pe_int (pa_cons pe_int pa_nil))) (pa_cons (pe_tup (pa_cons pe_int (pa_cons pe_int pa_nil))) pa_nil)))))))))), run_pure h (fun M x hx => ?_)⟩
  try dsimp only [cxOf, List.map_cons, List.map_nil]
  walk_at "dl"
  refine ⟨(x.d, 3), rfl, rfl, fun r hr => ?_⟩
  subst hr
  walk_at "dl"
  try refine ct' rfl ?_
  walk_at "dl"
  walk_at "dl"
  refine ⟨_, kit_tuple rfl, ?_⟩
  walk_at "dl"
  try refine ct' rfl ?_
  walk_at "dl"
  walk_at "dl"
  refine rd_ninT (es := [1, 2].map PyData.int) okIn_i ?_
  rw [any_ints]
  walk_at "dl"
  have hl : decide ((((x.tapes.map tp).length : Nat) : Int) ∈ ([1, 2] : List Int)) = true := by
    rw [List.length_map]
    rcases hx.len with h | h <;> rw [h] <;> decide
  have hz : (x.tapes.map tp).length ≤ 1000000 := by
    rw [List.length_map]
    rcases hx.len with h | h <;> omega
  rw [hl]
  try refine cf rfl ?_
  walk_at "dl"
  refine ⟨hz, fun _ => .bool true, fun y hy M' => ?_, ?_⟩
  · obtain ⟨t, ht, rfl⟩ := List.mem_map.mp hy
    walk_at "dl"
    exact ⟨t, rfl, hx.tapes t ht, fun r hr => hr⟩
  · walk_at "dl"
    refine cd_allM (p := fun _ => true) ?_
    have ha : (x.tapes.map tp).all (fun _ => true) = true := List.all_eq_true.mpr fun _ _ => rfl
    rw [ha]
    walk_at "dl"
    try refine cf rfl ?_
    walk_at "dl"
    walk_at "dl"
    refine ⟨(x.pencil, (0, 1), (1, 2)), rfl, ⟨hx.pencil, sm_0, sm_1⟩, fun r hr => ?_⟩
    subst hr
    walk_at "dl"
    try refine ct rfl ?_
    walk_at "dl"
    walk_at "dl"
    exact ⟨(x.saw, (0, 1), (1, 2)), rfl, ⟨hx.saw, sm_0, sm_1⟩, fun r hr => hr⟩
abbrev spNeedWorld (K : PySem.W.Frag) : Sp := spP K (fun W : Wd => [W.d]) GoodWd (fun _ _ => True)
theorem ok_need_world {P : Program} {w : World} {K : PySem.W.Frag} {mg : PySem.Str → Option Value} {base : Heap} {a : Ads} {d : Fds} (T : Txt K mg a d) : FnOk P w K mg base CX0 8 a.need_world d.need_world P_need_world (spNeedWorld K) := by
  have G_is_world := ok_is_world (P := P) (w := w) (base := base) T
  refine T.F_need_world.ok sc_need_world (fun vs H Q E h => ?_) (fun cdv A outer s H vs Q E hr h => ?_)
  · obtain ⟨vol, x, _, ha, _⟩ := h
    have e := ha.length
    rw [e]
    rfl
  refine ⟨_, (pss_one (ps_if (pt_not (pt_val (pe_call G_is_world (hr.mono (by decide)) rfl T.g_is_world T.k_is_world T.b_is_world .nil pass0 (pa_cons (pv 0) pa_nil)))) (pss_one ps_never) pss_nil)), run_pure h (fun M x hx => ?_)⟩
  try dsimp only [cxOf, List.map_cons, List.map_nil]
  walk_at "dl"
  refine ⟨x, rfl, hx, fun r hr => ?_⟩
  subst hr
  walk_at "dl"
  try refine cf rfl ?_
  walk_at "dl"
  trivial
end CL
set_option Elab.async false
set_option linter.all false
set_option maxRecDepth 100000
set_option maxHeartbeats 2000000
namespace CL
open PySem L2 DL
local macro_rules | `(tactic| walk_at "dl1") => `(tactic| first
  | ((with_reducible refine' ed_var ?hv ?_); (case hv => exact rfl))
  | with_reducible refine ed_int ?_
  | with_reducible refine ed_str ?_
  | with_reducible refine ed_bl ?_
  | with_reducible refine ed_non ?_
  | with_reducible refine ed_op ?_
  | with_reducible refine ea_cons ?_
  | with_reducible refine ea_nil ?_
  | with_reducible refine ed_isi ?_
  | with_reducible refine ed_cb ?_
  | with_reducible refine ed_call ?_
  | with_reducible refine ed_tup ?_
  | with_reducible refine ed_lst ?_
  | with_reducible refine ed_andV ?_
  | with_reducible refine ed_orV ?_
  | with_reducible refine ed_notV ?_
  | with_reducible refine ed_chain ?_
  | with_reducible refine ed_if ?_
  | with_reducible refine ed_un ?_
  | with_reducible refine ed_sl ?_
  | with_reducible refine ed_revL ?_
  | with_reducible refine ed_m1 ?_
  | with_reducible refine eo_no ?_
  | with_reducible refine eo_some ?_
  | with_reducible refine et_test ?_
  | with_reducible refine et_B ?_
  | with_reducible refine et_and ?_
  | with_reducible refine et_or ?_
  | with_reducible refine et_not ?_
  | with_reducible refine et_yes ?_
  | with_reducible refine sd_seq ?_
  | with_reducible refine sd_next ?_
  | with_reducible refine sd_set ?_
  | with_reducible refine sd_ret ?_
  | with_reducible refine sd_drop ?_
  | with_reducible refine sd_if ?_
  | with_reducible refine sd_par ?_
  | with_reducible refine sd_par3 ?_
  | with_reducible refine rd_addI ?_
  | with_reducible refine rd_subI ?_
  | with_reducible refine rd_ltI ?_
  | with_reducible refine rd_leI ?_
  | with_reducible refine rd_gtI ?_
  | with_reducible refine rd_geI ?_
  | with_reducible refine rd_isNo ?_
  | with_reducible refine rd_notNo ?_
  | with_reducible refine cd_lenL ?_
  | with_reducible refine cd_lenT ?_
  | with_reducible refine cd_abs ?_
  | with_reducible refine cd_intI ?_
  | with_reducible refine cd_intB ?_
  | with_reducible refine cd_strS ?_
  | with_reducible refine cd_listT ?_
  | with_reducible refine cd_tupleL ?_
  | with_reducible refine sd_L ?_
  | with_reducible refine sd_T ?_
  | with_reducible refine gd_name ?_
  | ((with_reducible refine' ed_lcL1y ?hv ?_); (case hv => exact rfl))
  | ((with_reducible refine' ed_lcT1y ?hv ?_); (case hv => exact rfl))
  | ((with_reducible refine' ed_lcL1 ?hv ?_); (case hv => exact rfl))
  | ((with_reducible refine' ed_lcT1 ?hv ?_); (case hv => exact rfl))
  | with_reducible refine exB ?_
  | with_reducible refine exI ?_
  | with_reducible refine exS ?_
  | with_reducible refine exL ?_
  | with_reducible refine exT ?_
  | with_reducible refine exLs ?_
  | with_reducible refine exIs ?_
  | with_reducible refine ex2 ?_
  | with_reducible refine ex3 ?_
  | with_reducible refine ln0 ?_
  | with_reducible refine ln1 ?_
  | with_reducible refine ln2 ?_
  | with_reducible refine ln3 ?_
  | with_reducible refine ln4 ?_
  | with_reducible refine ln5 ?_
  | with_reducible refine ln6 ?_
  | with_reducible refine ln7 ?_
  | with_reducible refine ln8 ?_
  | with_reducible refine ln9 ?_
  | with_reducible refine ln10 ?_
  | with_reducible refine ln11 ?_
  | with_reducible refine ln12 ?_
  | with_reducible refine cTT ?_
  | with_reducible refine cFT ?_
  | with_reducible refine cTF ?_
  | with_reducible refine cFF ?_
  | with_reducible refine nTT ?_
  | with_reducible refine nFT ?_
  | with_reducible refine nTF ?_
  | with_reducible refine nFF ?_
  | refine rd_ixT0 ?_
  | refine rd_ixL0 ?_
  | refine rd_ixT rfl ?_
  | refine rd_ixL rfl ?_)
local macro_rules | `(tactic| walk_at "dl") => `(tactic| repeat (walk_at "dl1"))
local macro_rules | `(tactic| walk_at "call1") => `(tactic| ((refine ⟨_, rfl, ?hcd, fun r hr => ?hcr⟩); (case hcd => first | assumption | rfl); (case hcr => (subst hr; try walk_at "dl"))))
local macro_rules | `(tactic| walk_at "and") => `(tactic| (refine ed_andE ?_; try walk_at "dl"))
local macro_rules | `(tactic| walk_at "k") => `(tactic| ((first | refine ct rfl ?_ | refine cf rfl ?_ | refine ct' rfl ?_ | refine cf' rfl ?_); try walk_at "dl"))
/-! ### steps -/
def p2 (f : PyData → PyData → Bool) : List PyData → Bool
  | [a, b] => f a b
  | _ => false
def p3 (f : PyData → PyData → PyData → Bool) : List PyData → Bool
  | [a, b, c] => f a b c
  | _ => false
def p5 (f : PyData → PyData → PyData → PyData → PyData → Bool) : List PyData → Bool
  | [a, b, c, d, e] => f a b c d e
  | _ => false
theorem p2_no {f : PyData → PyData → Bool} {r : List PyData} (h : ¬ r.length = 2) : p2 f r = false := by
  unfold p2; split
  · exact absurd rfl h
  · rfl
theorem p3_no {f : PyData → PyData → PyData → Bool} {r : List PyData} (h : ¬ r.length = 3) : p3 f r = false := by
  unfold p3; split
  · exact absurd rfl h
  · rfl
theorem p5_no {f : PyData → PyData → PyData → PyData → PyData → Bool} {r : List PyData} (h : ¬ r.length = 5) : p5 f r = false := by
  unfold p5; split
  · exact absurd rfl h
  · rfl
/-- a step that is no "if", by its word and what follows; n tapes -/
def plainD (n : Int) (w : PySem.Str) (r : List PyData) : Bool :=
  if w = "cut" then p3 (fun a b c => nameD a && (fromD 0 (n - 1) b && fromD 3 20 c)) r
  else if w ∈ (["outer", "inner"] : List PySem.Str) then p3 (fun a b c => nameD a && (nameD b && fromD 1 20 c)) r
  else if w = "join" then p3 (fun a b c => nameD a && (nameD b && nameD c)) r
  else if w ∈ (["half", "hold"] : List PySem.Str) then p2 (fun a b => nameD a && nameD b) r
  else if w ∈ (["read", "again"] : List PySem.Str) then p2 (fun a b => nameD a && fromD 0 (n - 1) b) r
  else if w = "split" then p5 (fun a b c d e => (nameD a && (nameD b && nameD c)) && (!PyData.eqv a b && (fromD 0 (n - 1) d && fromD 3 20 e))) r
  else false
/-- a world's datum as far as steps look at it -/
def wD (x : List PyData × List PyData) : PyData := .tuple (.tuple x.1 :: x.2)
abbrev Flat (r : List PyData) : Prop := ∀ x ∈ r, isIntD x = true ∨ isStrD x = true
theorem Flat.nd {r : List PyData} (h : Flat r) {x : PyData} (hx : x ∈ r) : noDict x = true := by
  rcases h x hx with h | h <;> cases x <;> simp_all [isIntD, isStrD, noDict]
abbrev spIsPlain (K : PySem.W.Frag) : Sp := spP K (fun x : (List PyData × List PyData) × PySem.Str × List PyData => [wD x.1, .tuple (.str x.2.1 :: x.2.2)]) (fun x => Flat x.2.2) (fun x r => r = .bool (plainD x.1.1.length x.2.1 x.2.2))
theorem okEq_flat {a b : PyData} (ha : isIntD a = true ∨ isStrD a = true) (hb : isIntD b = true ∨ isStrD b = true) : okEq a b := by
  cases a <;> simp [isIntD, isStrD] at ha <;> cases b <;> simp [isIntD, isStrD] at hb <;> exact ⟨rfl, rfl, by simp [PyData.depth]⟩
theorem cut_13 {a b c d : PyData} : cutD [a, b, c, d] (some 1) none = [b, c, d] := rfl
theorem cut_14 {a b c d e f : PyData} : cutD [a, b, c, d, e, f] (some 1) (some 4) = [b, c, d] := rfl
theorem ok_is_plain {P : Program} {w : World} {K : PySem.W.Frag} {mg : PySem.Str → Option Value} {base : Heap} {a : Ads} {d : Fds} (T : Txt K mg a d) : FnOk P w K mg base CX0 9 a.is_plain d.is_plain P_is_plain (spIsPlain K) := by
  have G_is_from := ok_is_from (P := P) (w := w) (base := base) T
  have G_is_mark := ok_is_mark (P := P) (w := w) (base := base) T
  have G_is_name := ok_is_name (P := P) (w := w) (base := base) T
  refine T.F_is_plain.ok sc_is_plain (fun vs H Q E h => ?_) (fun cdv A outer s H vs Q E hr h => ?_)
  · obtain ⟨vol, x, _, ha, _⟩ := h
    have e := ha.length
    rw [e]
    rfl
  refine ⟨_, (pss_cons (ps_par3 rfl sc_is_plain.nd (i := 2) (j := 3) (l := 4) rfl rfl rfl (by decide) (by decide) (by decide) rfl rfl rfl (pa_cons (pe_ix ixTu (pv 1) pe_int (fun _ _ => rfl)) (pa_cons (pe_op oSubI (pe_callB cLen (by rfl) T.len (by decide +kernel) (pa_cons (pe_ix ixTu (pv 0) pe_int (fun _ _ => rfl)) pa_nil)) pe_int) (pa_cons (pe_callB cLen (by rfl) T.len (by decide +kernel) (pa_cons (pv 1) pa_nil)) pa_nil))) rfl) (pss_cons (ps_if (pt_cmpR (oEqP hr.units) (pv 2) (pe_globS T.c_CUT rfl) rfl) (pss_one (ps_ret (pe_and (pe_cmpR (oEqP hr.units) (pv 4) pe_int rfl) (pe_and (pe_call G_is_name (hr.mono (by decide)) rfl T.g_is_name T.k_is_name T.b_is_name .nil pass0 (pa_cons (pe_ix ixTu (pv 1) pe_int (fun _ _ => rfl)) pa_nil)) (pe_and (pe_call G_is_from (hr.mono (by decide)) rfl T.g_is_from T.k_is_from T.b_is_from .nil pass0 (pa_cons (pe_ix ixTu (pv 1) pe_int (fun _ _ => rfl)) (pa_cons pe_int (pa_cons (pv 3) pa_nil)))) (pe_one (pe_call G_is_mark (hr.mono (by decide)) rfl T.g_is_mark T.k_is_mark T.b_is_mark .nil pass0 (pa_cons (pe_ix ixTu (pv 1) pe_int (fun _ _ => rfl)) pa_nil)))))))) pss_nil) (pss_cons (ps_if (pt_cmpR (oInP hr.units) (pv 2) (pe_tup (pa_cons (pe_globS T.c_OUTER rfl) (pa_cons (pe_globS T.c_INNER rfl) pa_nil))) rfl) (pss_one (ps_ret (pe_and (pe_cmpR (oEqP hr.units) (pv 4) pe_int rfl) (pe_and (pe_call G_is_name (hr.mono (by decide)) rfl T.g_is_name T.k_is_name T.b_is_name .nil pass0 (pa_cons (pe_ix ixTu (pv 1) pe_int (fun _ _ => rfl)) pa_nil)) (pe_and (pe_call G_is_name (hr.mono (by decide)) rfl T.g_is_name T.k_is_name T.b_is_name .nil pass0 (pa_cons (pe_ix ixTu (pv 1) pe_int (fun _ _ => rfl)) pa_nil)) (pe_one (pe_call G_is_from (hr.mono (by decide)) rfl T.g_is_from T.k_is_from T.b_is_from .nil pass0 (pa_cons (pe_ix ixTu (pv 1) pe_int (fun _ _ => rfl)) (pa_cons pe_int (pa_cons pe_int pa_nil)))))))))) pss_nil) (pss_cons (ps_if (pt_cmpR (oEqP hr.units) (pv 2) (pe_globS T.c_JOIN rfl) rfl) (pss_one (ps_ret (pe_and (pe_cmpR (oEqP hr.units) (pv 4) pe_int rfl) (pe_one (pe_callB (cAll rfl) (by rfl) T.all (by decide +kernel) (pa_cons (pe_lc (own := [("part", 5)]) (g := gName 5) rfl sc_is_plain.nd (pi_tup (pe_slice slTu (pv 1) (po_some pe_int) po_none)) (blkOk_by (own := [("part", 5)]) (N := N_is_plain) (sc := defScope s_is_plain) (by decide +kernel)) (fun _ _ _ _ _ => pg_name (i := 5) sc_is_plain.nd rfl (Or.inl rfl)) (fun _ _ _ _ _ => pts_nil) (fun _ _ _ _ _ => (pe_call G_is_name (hr.mono (by decide)) rfl T.g_is_name T.k_is_name T.b_is_name .nil pass0 (pa_cons (pv 5) pa_nil)))) pa_nil)))))) pss_nil) (pss_cons (ps_if (pt_cmpR (oInP hr.units) (pv 2) (pe_tup (pa_cons (pe_globS T.c_HALF rfl) (pa_cons (pe_globS T.c_HOLD rfl) pa_nil))) rfl) (pss_one (ps_ret (pe_and (pe_cmpR (oEqP hr.units) (pv 4) pe_int rfl) (pe_and (pe_call G_is_name (hr.mono (by decide)) rfl T.g_is_name T.k_is_name T.b_is_name .nil pass0 (pa_cons (pe_ix ixTu (pv 1) pe_int (fun _ _ => rfl)) pa_nil)) (pe_one (pe_call G_is_name (hr.mono (by decide)) rfl T.g_is_name T.k_is_name T.b_is_name .nil pass0 (pa_cons (pe_ix ixTu (pv 1) pe_int (fun _ _ => rfl)) pa_nil))))))) pss_nil) (pss_cons (ps_if (pt_cmpR (oInP hr.units) (pv 2) (pe_tup (pa_cons (pe_globS T.c_READ rfl) (pa_cons (pe_globS T.c_AGAIN rfl) pa_nil))) rfl) (pss_one (ps_ret (pe_and (pe_cmpR (oEqP hr.units) (pv 4) pe_int rfl) (pe_and (pe_call G_is_name (hr.mono (by decide)) rfl T.g_is_name T.k_is_name T.b_is_name .nil pass0 (pa_cons (pe_ix ixTu (pv 1) pe_int (fun _ _ => rfl)) pa_nil)) (pe_one (pe_call G_is_from (hr.mono (by decide)) rfl T.g_is_from T.k_is_from T.b_is_from .nil pass0 (pa_cons (pe_ix ixTu (pv 1) pe_int (fun _ _ => rfl)) (pa_cons pe_int (pa_cons (pv 3) pa_nil))))))))) pss_nil) (pss_cons (ps_if (PW.pt (pw_or (pt_cmpR (oNeP hr.units) (pv 2) (pe_globS T.c_SPLIT rfl) rfl) (pw_or (pt_cmpR (oNeP hr.units) (pv 4) pe_int rfl) (pw_or1 (pt_not (pt_val (pe_callB (cAll rfl) (by rfl) T.all (by decide +kernel) (pa_cons (pe_lc (own := [("part", 5)]) (g := gName 5) rfl sc_is_plain.nd (pi_tup (pe_slice slTu (pv 1) (po_some pe_int) (po_some pe_int))) (blkOk_by (own := [("part", 5)]) (N := N_is_plain) (sc := defScope s_is_plain) (by decide +kernel)) (fun _ _ _ _ _ => pg_name (i := 5) sc_is_plain.nd rfl (Or.inl rfl)) (fun _ _ _ _ _ => pts_nil) (fun _ _ _ _ _ => (pe_call G_is_name (hr.mono (by decide)) rfl T.g_is_name T.k_is_name T.b_is_name .nil pass0 (pa_cons (pv 5) pa_nil)))) pa_nil)))))))) (pss_one (ps_ret pe_bl)) pss_nil) (pss_one (ps_ret (pe_and (pe_cmpR (oNeP hr.units) (pe_ix ixTu (pv 1) pe_int (fun _ _ => rfl)) (pe_ix ixTu (pv 1) pe_int (fun _ _ => rfl)) rfl) (pe_and (pe_call G_is_from (hr.mono (by decide)) rfl T.g_is_from T.k_is_from T.b_is_from .nil pass0 (pa_cons (pe_ix ixTu (pv 1) pe_int (fun _ _ => rfl)) (pa_cons pe_int (pa_cons (pv 3) pa_nil)))) (pe_one (pe_call G_is_mark (hr.mono (by decide)) rfl T.g_is_mark T.k_is_mark T.b_is_mark .nil pass0 (pa_cons (pe_ix ixTu (pv 1) pe_int (fun _ _ => rfl)) pa_nil)))))))))))))), run_pure h (fun M x hx => ?_)⟩
  try dsimp only [cxOf, List.map_cons, List.map_nil]
  obtain ⟨⟨ts, rest⟩, wd, r⟩ := x
  dsimp only at hx ⊢
  walk_at "dl"
  refine rd_eqP okEq_ss ?_
  rw [eqv_str]
  refine exB ⟨fun hc => ?_, fun hc => ?_⟩
  · have hw : wd = "cut" := of_decide_eq_true hc
    walk_at "dl"
    refine rd_eqP okEq_ii ?_
    rw [eqv_int]
    refine exB ⟨fun h4 => ?_, fun h4 => ?_⟩
    · have h3 : r.length = 3 := by have := of_decide_eq_true h4; simp only [List.length_cons] at this; omega
      obtain ⟨a, b, c, rfl⟩ := len3 h3
      have na := hx.nd (x := a) (by simp)
      have nb := hx.nd (x := b) (by simp)
      have nc := hx.nd (x := c) (by simp)
      walk_at "and"
      refine ⟨a, rfl, na, fun r hr => ?_⟩; subst hr
      refine ⟨_, fromD 0 ((ts.length : Int) - 1) b && (fromD 3 20 c), rfl, ?_, ?_⟩
      · skip
        walk_at "and"
        refine ⟨(b, 0, (ts.length : Int) - 1), rfl, nb, fun r hr => ?_⟩; subst hr
        refine ⟨_, fromD 3 20 c, rfl, ?_, ?_⟩
        · skip
          walk_at "dl"
          exact ⟨c, rfl, nc, fun r hr => hr⟩
        · rfl
      · show PyData.bool _ = PyData.bool (plainD _ _ _)
        unfold plainD
        rw [if_pos hw]
        rfl
    · show PyData.bool _ = PyData.bool (plainD _ _ _)
      unfold plainD
      rw [if_pos hw, p3_no]
      have := of_decide_eq_false h4; simp only [List.length_cons] at this; omega
  have hw0 : ¬ wd = "cut" := of_decide_eq_false hc
  walk_at "dl"
  refine rd_inT (es := (["outer", "inner"] : List PySem.Str).map PyData.str) okIn_strs ?_
  rw [any_strs]
  refine exB ⟨fun hc => ?_, fun hc => ?_⟩
  · have hw := of_decide_eq_true hc
    walk_at "dl"
    refine rd_eqP okEq_ii ?_
    rw [eqv_int]
    refine exB ⟨fun h4 => ?_, fun h4 => ?_⟩
    · have h3 : r.length = 3 := by have := of_decide_eq_true h4; simp only [List.length_cons] at this; omega
      obtain ⟨a, b, c, rfl⟩ := len3 h3
      have na := hx.nd (x := a) (by simp)
      have nb := hx.nd (x := b) (by simp)
      have nc := hx.nd (x := c) (by simp)
      walk_at "and"
      refine ⟨a, rfl, na, fun r hr => ?_⟩; subst hr
      refine ⟨_, nameD b && (fromD 1 20 c), rfl, ?_, ?_⟩
      · skip
        walk_at "and"
        refine ⟨b, rfl, nb, fun r hr => ?_⟩; subst hr
        refine ⟨_, fromD 1 20 c, rfl, ?_, ?_⟩
        · skip
          walk_at "dl"
          exact ⟨(c, 1, 20), rfl, nc, fun r hr => hr⟩
        · rfl
      · show PyData.bool _ = PyData.bool (plainD _ _ _)
        unfold plainD
        rw [if_neg hw0, if_pos hw]
        rfl
    · show PyData.bool _ = PyData.bool (plainD _ _ _)
      unfold plainD
      rw [if_neg hw0, if_pos hw, p3_no]
      have := of_decide_eq_false h4; simp only [List.length_cons] at this; omega
  have hw1 := of_decide_eq_false hc
  walk_at "dl"
  refine rd_eqP okEq_ss ?_
  rw [eqv_str]
  refine exB ⟨fun hc => ?_, fun hc => ?_⟩
  · have hw : wd = "join" := of_decide_eq_true hc
    walk_at "dl"
    refine rd_eqP okEq_ii ?_
    rw [eqv_int]
    refine exB ⟨fun h4 => ?_, fun h4 => ?_⟩
    · have h3 : r.length = 3 := by have := of_decide_eq_true h4; simp only [List.length_cons] at this; omega
      obtain ⟨a, b, c, rfl⟩ := len3 h3
      have na := hx.nd (x := a) (by simp)
      have nb := hx.nd (x := b) (by simp)
      have nc := hx.nd (x := c) (by simp)
      walk_at "dl"
      rw [cut_13]
      refine ⟨by show 3 ≤ 1000000; decide, fun x => .bool (nameD x), fun y hy M' => ?_, ?_⟩
      · walk_at "dl"
        exact ⟨y, rfl, hx.nd hy, fun r hr => hr⟩
      · walk_at "dl"
        refine cd_allM (p := nameD) ?_
        show PyData.bool _ = PyData.bool (plainD _ _ _)
        unfold plainD
        rw [if_neg hw0, if_neg hw1, if_pos hw]
        simp only [p3, List.all_cons, List.all_nil, Bool.and_true]
    · show PyData.bool _ = PyData.bool (plainD _ _ _)
      unfold plainD
      rw [if_neg hw0, if_neg hw1, if_pos hw, p3_no]
      have := of_decide_eq_false h4; simp only [List.length_cons] at this; omega
  have hw2 : ¬ wd = "join" := of_decide_eq_false hc
  walk_at "dl"
  refine rd_inT (es := (["half", "hold"] : List PySem.Str).map PyData.str) okIn_strs ?_
  rw [any_strs]
  refine exB ⟨fun hc => ?_, fun hc => ?_⟩
  · have hw := of_decide_eq_true hc
    walk_at "dl"
    refine rd_eqP okEq_ii ?_
    rw [eqv_int]
    refine exB ⟨fun h4 => ?_, fun h4 => ?_⟩
    · have h3 : r.length = 2 := by have := of_decide_eq_true h4; simp only [List.length_cons] at this; omega
      obtain ⟨a, b, rfl⟩ := len2 h3
      have na := hx.nd (x := a) (by simp)
      have nb := hx.nd (x := b) (by simp)
      walk_at "and"
      refine ⟨a, rfl, na, fun r hr => ?_⟩; subst hr
      refine ⟨_, nameD b, rfl, ?_, ?_⟩
      · skip
        walk_at "dl"
        exact ⟨b, rfl, nb, fun r hr => hr⟩
      · show PyData.bool _ = PyData.bool (plainD _ _ _)
        unfold plainD
        rw [if_neg hw0, if_neg hw1, if_neg hw2, if_pos hw]
        rfl
    · show PyData.bool _ = PyData.bool (plainD _ _ _)
      unfold plainD
      rw [if_neg hw0, if_neg hw1, if_neg hw2, if_pos hw, p2_no]
      have := of_decide_eq_false h4; simp only [List.length_cons] at this; omega
  have hw3 := of_decide_eq_false hc
  walk_at "dl"
  refine rd_inT (es := (["read", "again"] : List PySem.Str).map PyData.str) okIn_strs ?_
  rw [any_strs]
  refine exB ⟨fun hc => ?_, fun hc => ?_⟩
  · have hw := of_decide_eq_true hc
    walk_at "dl"
    refine rd_eqP okEq_ii ?_
    rw [eqv_int]
    refine exB ⟨fun h4 => ?_, fun h4 => ?_⟩
    · have h3 : r.length = 2 := by have := of_decide_eq_true h4; simp only [List.length_cons] at this; omega
      obtain ⟨a, b, rfl⟩ := len2 h3
      have na := hx.nd (x := a) (by simp)
      have nb := hx.nd (x := b) (by simp)
      walk_at "and"
      refine ⟨a, rfl, na, fun r hr => ?_⟩; subst hr
      refine ⟨_, fromD 0 ((ts.length : Int) - 1) b, rfl, ?_, ?_⟩
      · skip
        walk_at "dl"
        exact ⟨(b, 0, (ts.length : Int) - 1), rfl, nb, fun r hr => hr⟩
      · show PyData.bool _ = PyData.bool (plainD _ _ _)
        unfold plainD
        rw [if_neg hw0, if_neg hw1, if_neg hw2, if_neg hw3, if_pos hw]
        rfl
    · show PyData.bool _ = PyData.bool (plainD _ _ _)
      unfold plainD
      rw [if_neg hw0, if_neg hw1, if_neg hw2, if_neg hw3, if_pos hw, p2_no]
      have := of_decide_eq_false h4; simp only [List.length_cons] at this; omega
  have hw4 := of_decide_eq_false hc
  walk_at "dl"
  refine rd_neP okEq_ss ?_
  rw [eqv_str]
  refine exB ⟨fun hc => ?_, fun hc => ?_⟩
  · have hw : wd = "split" := by simpa using hc
    walk_at "dl"
    refine rd_neP okEq_ii ?_
    rw [eqv_int]
    refine exB ⟨fun h4 => ?_, fun h4 => ?_⟩
    · have h3 : r.length = 5 := by
        have h5 := of_decide_eq_true (by simpa using h4 : decide ((((.str wd :: r : List PyData).length : Nat) : Int) = 6) = true)
        simp only [List.length_cons] at h5; omega
      obtain ⟨a, b, c, e, f, rfl⟩ := len5 h3
      have na := hx.nd (x := a) (by simp)
      have nb := hx.nd (x := b) (by simp)
      have nc := hx.nd (x := c) (by simp)
      have ne := hx.nd (x := e) (by simp)
      have nf := hx.nd (x := f) (by simp)
      walk_at "dl"
      rw [cut_14]
      refine ⟨by show 3 ≤ 1000000; decide, fun x => .bool (nameD x), fun y hy M' => ?_, ?_⟩
      · walk_at "dl"
        refine ⟨y, rfl, ?_, fun r hr => hr⟩
        simp only [List.mem_cons, List.not_mem_nil, or_false] at hy
        rcases hy with rfl | rfl | rfl <;> assumption
      · walk_at "dl"
        refine cd_allM (p := nameD) ?_
        refine exB ⟨fun hn => ?_, fun hn => ?_⟩
        · walk_at "dl"
          show PyData.bool _ = PyData.bool (plainD _ _ _)
          unfold plainD
          rw [if_neg hw0, if_neg hw1, if_neg hw2, if_neg hw3, if_neg hw4, if_pos hw]
          have hn' : (nameD a && (nameD b && nameD c)) = false := by cases h1 : nameD a <;> cases h2 : nameD b <;> cases h3 : nameD c <;> simp [h1, h2, h3] at hn ⊢
          simp only [p5, hn', Bool.false_and]
        · have hn' : (nameD a && (nameD b && nameD c)) = true := by simpa using hn
          walk_at "dl"
          refine rd_neP (okEq_flat (hx a (by simp)) (hx b (by simp))) ?_
          refine exB ⟨fun he => ?_, fun he => ?_⟩
          · walk_at "and"
            refine ⟨(e, 0, (ts.length : Int) - 1), rfl, ne, fun r hr => ?_⟩; subst hr
            refine ⟨_, fromD 3 20 f, rfl, ?_, ?_⟩
            · walk_at "dl"
              exact ⟨f, rfl, nf, fun r hr => hr⟩
            · show PyData.bool _ = PyData.bool (plainD _ _ _)
              unfold plainD
              rw [if_neg hw0, if_neg hw1, if_neg hw2, if_neg hw3, if_neg hw4, if_pos hw]
              simp only [p5, hn', he, Bool.true_and]
          · show PyData.bool _ = PyData.bool (plainD _ _ _)
            unfold plainD
            rw [if_neg hw0, if_neg hw1, if_neg hw2, if_neg hw3, if_neg hw4, if_pos hw]
            simp only [p5, hn', he, Bool.true_and, Bool.false_and]
    · walk_at "dl"
      show PyData.bool _ = PyData.bool (plainD _ _ _)
      unfold plainD
      rw [if_neg hw0, if_neg hw1, if_neg hw2, if_neg hw3, if_neg hw4, if_pos hw, p5_no]
      intro h5
      simp [h5] at h4
  · have hw : ¬ wd = "split" := by simpa using hc
    walk_at "dl"
    show PyData.bool _ = PyData.bool (plainD _ _ _)
    unfold plainD
    rw [if_neg hw0, if_neg hw1, if_neg hw2, if_neg hw3, if_neg hw4, if_neg hw]
end CL
set_option Elab.async false
set_option linter.all false
set_option maxRecDepth 100000
set_option maxHeartbeats 2000000
namespace CL
open PySem L2 DL
local macro_rules | `(tactic| walk_at "dl1") => `(tactic| first
  | ((with_reducible refine' ed_var ?hv ?_); (case hv => exact rfl))
  | with_reducible refine ed_int ?_
  | with_reducible refine ed_str ?_
  | with_reducible refine ed_bl ?_
  | with_reducible refine ed_non ?_
  | with_reducible refine ed_op ?_
  | with_reducible refine ea_cons ?_
  | with_reducible refine ea_nil ?_
  | with_reducible refine ed_isi ?_
  | with_reducible refine ed_cb ?_
  | with_reducible refine ed_call ?_
  | with_reducible refine ed_tup ?_
  | with_reducible refine ed_lst ?_
  | with_reducible refine ed_andV ?_
  | with_reducible refine ed_orV ?_
  | with_reducible refine ed_notV ?_
  | with_reducible refine ed_chain ?_
  | with_reducible refine ed_if ?_
  | with_reducible refine ed_un ?_
  | with_reducible refine ed_sl ?_
  | with_reducible refine ed_revL ?_
  | with_reducible refine ed_m1 ?_
  | with_reducible refine eo_no ?_
  | with_reducible refine eo_some ?_
  | with_reducible refine et_test ?_
  | with_reducible refine et_B ?_
  | with_reducible refine et_and ?_
  | with_reducible refine et_or ?_
  | with_reducible refine et_not ?_
  | with_reducible refine et_yes ?_
  | with_reducible refine sd_seq ?_
  | with_reducible refine sd_next ?_
  | with_reducible refine sd_set ?_
  | with_reducible refine sd_ret ?_
  | with_reducible refine sd_drop ?_
  | with_reducible refine sd_if ?_
  | with_reducible refine sd_par ?_
  | with_reducible refine sd_par3 ?_
  | with_reducible refine rd_addI ?_
  | with_reducible refine rd_subI ?_
  | with_reducible refine rd_ltI ?_
  | with_reducible refine rd_leI ?_
  | with_reducible refine rd_gtI ?_
  | with_reducible refine rd_geI ?_
  | with_reducible refine rd_isNo ?_
  | with_reducible refine rd_notNo ?_
  | with_reducible refine cd_lenL ?_
  | with_reducible refine cd_lenT ?_
  | with_reducible refine cd_abs ?_
  | with_reducible refine cd_intI ?_
  | with_reducible refine cd_intB ?_
  | with_reducible refine cd_strS ?_
  | with_reducible refine cd_listT ?_
  | with_reducible refine cd_tupleL ?_
  | with_reducible refine sd_L ?_
  | with_reducible refine sd_T ?_
  | with_reducible refine gd_name ?_
  | ((with_reducible refine' ed_lcL1y ?hv ?_); (case hv => exact rfl))
  | ((with_reducible refine' ed_lcT1y ?hv ?_); (case hv => exact rfl))
  | ((with_reducible refine' ed_lcL1 ?hv ?_); (case hv => exact rfl))
  | ((with_reducible refine' ed_lcT1 ?hv ?_); (case hv => exact rfl))
  | with_reducible refine exB ?_
  | with_reducible refine exI ?_
  | with_reducible refine exS ?_
  | with_reducible refine exL ?_
  | with_reducible refine exT ?_
  | with_reducible refine exLs ?_
  | with_reducible refine exIs ?_
  | with_reducible refine ex2 ?_
  | with_reducible refine ex3 ?_
  | with_reducible refine ln0 ?_
  | with_reducible refine ln1 ?_
  | with_reducible refine ln2 ?_
  | with_reducible refine ln3 ?_
  | with_reducible refine ln4 ?_
  | with_reducible refine ln5 ?_
  | with_reducible refine ln6 ?_
  | with_reducible refine ln7 ?_
  | with_reducible refine ln8 ?_
  | with_reducible refine ln9 ?_
  | with_reducible refine ln10 ?_
  | with_reducible refine ln11 ?_
  | with_reducible refine ln12 ?_
  | with_reducible refine cTT ?_
  | with_reducible refine cFT ?_
  | with_reducible refine cTF ?_
  | with_reducible refine cFF ?_
  | with_reducible refine nTT ?_
  | with_reducible refine nFT ?_
  | with_reducible refine nTF ?_
  | with_reducible refine nFF ?_
  | refine rd_ixT0 ?_
  | refine rd_ixL0 ?_
  | refine rd_ixT rfl ?_
  | refine rd_ixL rfl ?_)
local macro_rules | `(tactic| walk_at "dl") => `(tactic| repeat (walk_at "dl1"))
local macro_rules | `(tactic| walk_at "call1") => `(tactic| ((refine ⟨_, rfl, ?hcd, fun r hr => ?hcr⟩); (case hcd => first | assumption | rfl); (case hcr => (subst hr; try walk_at "dl"))))
local macro_rules | `(tactic| walk_at "and") => `(tactic| (refine ed_andE ?_; try walk_at "dl"))
local macro_rules | `(tactic| walk_at "k") => `(tactic| ((first | refine ct rfl ?_ | refine cf rfl ?_ | refine ct' rfl ?_ | refine cf' rfl ?_); try walk_at "dl"))
/-- a step that is no "if": its word and what follows -/
abbrev Pl := PySem.Str × List PyData
def Pl.d (s : Pl) : PyData := .tuple (.str s.1 :: s.2)
structure GoodPl (n : Int) (s : Pl) : Prop where
  flat : Flat s.2
  noif : ¬ s.1 = "if"
  ok : plainD n s.1 s.2 = true
/-- is_step(world, step, False) of a tuple of words -/
def step0 (n : Int) : List PyData → Bool
  | .str w :: r => if w = "if" then false else plainD n w r
  | _ => false
abbrev spIsStep0 (K : PySem.W.Frag) : Sp := spP K (fun x : (List PyData × List PyData) × PyData × List PyData => [wD x.1, .tuple (x.2.1 :: x.2.2), .bool false]) (fun x => Flat (x.2.1 :: x.2.2)) (fun x r => r = .bool (step0 x.1.1.length (x.2.1 :: x.2.2)))
theorem okEq_tuples {r : List PyData} (h : PyData.plainAll r = true) : okEq (.tuple r) (.tuple []) := ⟨by simpa [PyData.plain] using h, rfl, by simp [PyData.depth, PyData.depthAll]⟩
theorem plainAll_flat : ∀ {r : List PyData}, Flat r → PyData.plainAll r = true
  | [], _ => rfl
  | a :: r, h => by
    have h1 := h a (by simp)
    have h2 := plainAll_flat (r := r) fun x hx => h x (by simp [hx])
    cases a <;> simp [isIntD, isStrD] at h1 <;> simp [PyData.plainAll, PyData.plain, h2]
theorem eqv_cons_nil {a : PyData} {r : List PyData} : PyData.eqv (.tuple (a :: r)) (.tuple []) = false := by simp [PyData.eqv, PyData.eqvAll]
theorem ok_is_step0 {P : Program} {w : World} {K : PySem.W.Frag} {mg : PySem.Str → Option Value} {base : Heap} {a : Ads} {d : Fds} (T : Txt K mg a d) : FnOk P w K mg base CX0 10 a.is_step d.is_step P_is_step (spIsStep0 K) := by
  have G_is_plain := ok_is_plain (P := P) (w := w) (base := base) T
  have G_is_name := ok_is_name (P := P) (w := w) (base := base) T
  refine T.F_is_step.ok sc_is_step (fun vs H Q E h => ?_) (fun cdv A outer s H vs Q E hr h => ?_)
  · obtain ⟨vol, x, _, ha, _⟩ := h
    have e := ha.length
    rw [e]
    rfl
  refine ⟨_, PSs.nox (pss_cons (ps_if (PW.pt (pw_or (pt_not (pt_val (pe_callB call_isi (by rfl) T.isinstance (by decide +kernel) (pa_cons (pv 1) (pa_cons (pe_bltn (v := .ty "tuple") (by rfl) T.tuple (by decide +kernel) rfl) pa_nil))))) (pw_or (pt_cmpR (oEqP hr.units) (pv 1) (pe_tup pa_nil) rfl) (pw_or1 (pt_not (pt_val (pe_callB call_isi (by rfl) T.isinstance (by decide +kernel) (pa_cons (pe_ix ixTu (pv 1) pe_int (fun _ _ => rfl)) (pa_cons (pe_bltn (v := .ty "str") (by rfl) T.str (by decide +kernel) rfl) pa_nil))))))))) (pss_one (ps_ret pe_bl)) pss_nil) (pss_cons (ps_if (pt_cmpR (oNeP hr.units) (pe_ix ixTu (pv 1) pe_int (fun _ _ => rfl)) (pe_globS T.c_IF rfl) rfl) (pss_one (ps_ret (pe_call G_is_plain (hr.mono (by decide)) rfl T.g_is_plain T.k_is_plain T.b_is_plain .nil pass0 (pa_cons (pv 0) (pa_cons (pv 1) pa_nil))))) pss_nil) (pss_cons (ps_if (PW.pt (pw_or (pt_not (pt_val (pv 2))) (pw_or (pt_cmpR (oNeP hr.units) (pe_callB cLen (by rfl) T.len (by decide +kernel) (pa_cons (pv 1) pa_nil)) pe_int rfl) (pw_or (pt_not (pt_val (pe_call G_is_name (hr.mono (by decide)) rfl T.g_is_name T.k_is_name T.b_is_name .nil pass0 (pa_cons (pe_ix ixTu (pv 1) pe_int (fun _ _ => rfl)) pa_nil)))) (pw_or1 (pt_not (pt_val (pe_call G_is_name (hr.mono (by decide)) rfl T.g_is_name T.k_is_name T.b_is_name .nil pass0 (pa_cons (pe_ix ixTu (pv 1) pe_int (fun _ _ => rfl)) pa_nil))))))))) (pss_one (ps_ret pe_bl)) pss_nil) (pss_one ps_never)))), run_pure h (fun M x hx => ?_)⟩
  try dsimp only [cxOf]
  obtain ⟨⟨ts, rest⟩, x0, r⟩ := x
  dsimp only at hx ⊢
  walk_at "dl"
  refine ⟨_, kit_tuple rfl, ?_⟩
  walk_at "dl"
  walk_at "k"
  refine rd_eqP (okEq_tuples (plainAll_flat hx)) ?_
  rw [eqv_cons_nil]
  walk_at "dl"
  have nd : noDict x0 = true := hx.nd (by simp)
  refine ⟨_, kit_str nd, ?_⟩
  walk_at "dl"
  rcases hx x0 (by simp) with hi | hs
  · cases x0 <;> simp [isIntD] at hi
    exact ⟨fun _ => by walk_at "dl"; rfl, fun z => by cases z⟩
  · cases x0 <;> simp [isStrD] at hs
    rename_i wd
    walk_at "k"
    refine rd_neP okEq_ss ?_
    rw [eqv_str]
    have fr : Flat r := fun y hy => hx y (by simp [hy])
    refine exB ⟨fun hc => ?_, fun hc => ?_⟩
    · have hw : ¬ wd = "if" := by simpa using hc
      walk_at "dl"
      refine ⟨((ts, rest), wd, r), rfl, fr, fun q hq => ?_⟩
      rw [hq]
      show PyData.bool _ = PyData.bool (if _ then _ else _)
      rw [if_neg hw]
    · have hw : wd = "if" := by simpa using hc
      walk_at "dl"
      show PyData.bool _ = PyData.bool (if _ then _ else _)
      rw [if_pos hw]
/-- is_body: plain steps, all good -/
abbrev spIsBody (K : PySem.W.Frag) : Sp := spP K (fun x : (List PyData × List PyData) × List Pl => [wD x.1, .tuple (x.2.map Pl.d)]) (fun x => x.2.length ≤ 1000000 ∧ ∀ s ∈ x.2, GoodPl x.1.1.length s) (fun x r => r = .bool (decide ((x.2.length : Int) ≤ 3)))
theorem GoodPl.st {n : Int} {s : Pl} (h : GoodPl n s) : step0 n (.str s.1 :: s.2) = true := by
  show (if _ then _ else _) = true
  rw [if_neg h.noif]
  exact h.ok
theorem ok_is_body {P : Program} {w : World} {K : PySem.W.Frag} {mg : PySem.Str → Option Value} {base : Heap} {a : Ads} {d : Fds} (T : Txt K mg a d) : FnOk P w K mg base CX0 11 a.is_body d.is_body P_is_body (spIsBody K) := by
  have G_is_step := ok_is_step0 (P := P) (w := w) (base := base) T
  refine T.F_is_body.ok sc_is_body (fun vs H Q E h => ?_) (fun cdv A outer s H vs Q E hr h => ?_)
  · obtain ⟨vol, x, _, ha, _⟩ := h
    have e := ha.length
    rw [e]
    rfl
  refine ⟨_, (pss_one (ps_ret (pe_and (pe_callB call_isi (by rfl) T.isinstance (by decide +kernel) (pa_cons (pv 1) (pa_cons (pe_bltn (v := .ty "tuple") (by rfl) T.tuple (by decide +kernel) rfl) pa_nil))) (pe_and (pe_cmpR oLeI (pe_callB cLen (by rfl) T.len (by decide +kernel) (pa_cons (pv 1) pa_nil)) pe_int rfl) (pe_one (pe_callB (cAll rfl) (by rfl) T.all (by decide +kernel) (pa_cons (pe_lc (own := [("step", 2)]) (g := gName 2) rfl sc_is_body.nd (pi_tup (pv 1)) (blkOk_by (own := [("step", 2)]) (N := N_is_body) (sc := defScope s_is_body) (by decide +kernel)) (fun _ _ _ _ _ => pg_name (i := 2) sc_is_body.nd rfl (Or.inl rfl)) (fun _ _ _ _ _ => pts_nil) (fun _ _ _ _ _ => (pe_call G_is_step (hr.mono (by decide)) rfl T.g_is_step T.k_is_step T.bS3 .nil pass0 (pa_cons (pv 0) (pa_cons (pv 2) (pa_cons pe_bl pa_nil)))))) pa_nil))))))), run_pure h (fun M x hx => ?_)⟩
  try dsimp only [cxOf]
  obtain ⟨⟨ts, rest⟩, b⟩ := x
  dsimp only at hx ⊢
  walk_at "dl"
  refine ⟨_, kit_tuple rfl, ?_⟩
  walk_at "dl"
  walk_at "k"
  rw [List.length_map]
  refine ⟨fun hc => ?_, fun hc => ?_⟩
  · walk_at "dl"
    refine ⟨by rw [List.length_map]; exact hx.1, fun _ => .bool true, fun y hy M' => ?_, ?_⟩
    · obtain ⟨s, hs, rfl⟩ := List.mem_map.mp hy
      have g := hx.2 s hs
      walk_at "dl"
      refine ⟨((ts, rest), .str s.1, s.2), rfl, fun z hz => ?_, fun q hq => by rw [hq]; exact congrArg _ g.st⟩
      rcases List.mem_cons.mp hz with rfl | hz
      · exact .inr rfl
      · exact g.flat z hz
    · walk_at "dl"
      refine cd_allM (p := fun _ => true) ?_
      show PyData.bool _ = PyData.bool _
      rw [hc, List.all_eq_true.mpr fun _ _ => rfl]
  · show PyData.bool _ = PyData.bool _
    rw [hc]
end CL
set_option Elab.async false
set_option linter.all false
set_option maxRecDepth 100000
set_option maxHeartbeats 2000000
namespace CL
open PySem L2 DL
local macro_rules | `(tactic| walk_at "dl1") => `(tactic| first
  | ((with_reducible refine' ed_var ?hv ?_); (case hv => exact rfl))
  | with_reducible refine ed_int ?_
  | with_reducible refine ed_str ?_
  | with_reducible refine ed_bl ?_
  | with_reducible refine ed_non ?_
  | with_reducible refine ed_op ?_
  | with_reducible refine ea_cons ?_
  | with_reducible refine ea_nil ?_
  | with_reducible refine ed_isi ?_
  | with_reducible refine ed_cb ?_
  | with_reducible refine ed_call ?_
  | with_reducible refine ed_tup ?_
  | with_reducible refine ed_lst ?_
  | with_reducible refine ed_andV ?_
  | with_reducible refine ed_orV ?_
  | with_reducible refine ed_notV ?_
  | with_reducible refine ed_chain ?_
  | with_reducible refine ed_if ?_
  | with_reducible refine ed_un ?_
  | with_reducible refine ed_sl ?_
  | with_reducible refine ed_revL ?_
  | with_reducible refine ed_m1 ?_
  | with_reducible refine eo_no ?_
  | with_reducible refine eo_some ?_
  | with_reducible refine et_test ?_
  | with_reducible refine et_B ?_
  | with_reducible refine et_and ?_
  | with_reducible refine et_or ?_
  | with_reducible refine et_not ?_
  | with_reducible refine et_yes ?_
  | with_reducible refine sd_seq ?_
  | with_reducible refine sd_next ?_
  | with_reducible refine sd_set ?_
  | with_reducible refine sd_ret ?_
  | with_reducible refine sd_drop ?_
  | with_reducible refine sd_if ?_
  | with_reducible refine sd_par ?_
  | with_reducible refine sd_par3 ?_
  | with_reducible refine rd_addI ?_
  | with_reducible refine rd_subI ?_
  | with_reducible refine rd_ltI ?_
  | with_reducible refine rd_leI ?_
  | with_reducible refine rd_gtI ?_
  | with_reducible refine rd_geI ?_
  | with_reducible refine rd_isNo ?_
  | with_reducible refine rd_notNo ?_
  | with_reducible refine cd_lenL ?_
  | with_reducible refine cd_lenT ?_
  | with_reducible refine cd_abs ?_
  | with_reducible refine cd_intI ?_
  | with_reducible refine cd_intB ?_
  | with_reducible refine cd_strS ?_
  | with_reducible refine cd_listT ?_
  | with_reducible refine cd_tupleL ?_
  | with_reducible refine sd_L ?_
  | with_reducible refine sd_T ?_
  | with_reducible refine gd_name ?_
  | ((with_reducible refine' ed_lcL1y ?hv ?_); (case hv => exact rfl))
  | ((with_reducible refine' ed_lcT1y ?hv ?_); (case hv => exact rfl))
  | ((with_reducible refine' ed_lcL1 ?hv ?_); (case hv => exact rfl))
  | ((with_reducible refine' ed_lcT1 ?hv ?_); (case hv => exact rfl))
  | with_reducible refine exB ?_
  | with_reducible refine exI ?_
  | with_reducible refine exS ?_
  | with_reducible refine exL ?_
  | with_reducible refine exT ?_
  | with_reducible refine exLs ?_
  | with_reducible refine exIs ?_
  | with_reducible refine ex2 ?_
  | with_reducible refine ex3 ?_
  | with_reducible refine ln0 ?_
  | with_reducible refine ln1 ?_
  | with_reducible refine ln2 ?_
  | with_reducible refine ln3 ?_
  | with_reducible refine ln4 ?_
  | with_reducible refine ln5 ?_
  | with_reducible refine ln6 ?_
  | with_reducible refine ln7 ?_
  | with_reducible refine ln8 ?_
  | with_reducible refine ln9 ?_
  | with_reducible refine ln10 ?_
  | with_reducible refine ln11 ?_
  | with_reducible refine ln12 ?_
  | with_reducible refine cTT ?_
  | with_reducible refine cFT ?_
  | with_reducible refine cTF ?_
  | with_reducible refine cFF ?_
  | with_reducible refine nTT ?_
  | with_reducible refine nFT ?_
  | with_reducible refine nTF ?_
  | with_reducible refine nFF ?_
  | refine rd_ixT0 ?_
  | refine rd_ixL0 ?_
  | refine rd_ixT rfl ?_
  | refine rd_ixL rfl ?_)
local macro_rules | `(tactic| walk_at "dl") => `(tactic| repeat (walk_at "dl1"))
local macro_rules | `(tactic| walk_at "call1") => `(tactic| ((refine ⟨_, rfl, ?hcd, fun r hr => ?hcr⟩); (case hcd => first | assumption | rfl); (case hcr => (subst hr; try walk_at "dl"))))
local macro_rules | `(tactic| walk_at "and") => `(tactic| (refine ed_andE ?_; try walk_at "dl"))
local macro_rules | `(tactic| walk_at "k") => `(tactic| ((first | refine ct rfl ?_ | refine cf rfl ?_ | refine ct' rfl ?_ | refine cf' rfl ?_); try walk_at "dl"))
/-- a step -/
inductive Stp
  | pl (s : Pl)
  | iff (a b w : PySem.Str) (b1 b2 : List Pl)
def Stp.d : Stp → PyData
  | .pl s => s.d
  | .iff a b w b1 b2 => .tuple [.str "if", .str a, .str b, .str w, .tuple (b1.map Pl.d), .tuple (b2.map Pl.d)]
def GoodSt (n : Int) : Stp → Prop
  | .pl s => GoodPl n s
  | .iff a b w b1 b2 => a ∈ NMS ∧ b ∈ NMS ∧ w ∈ SEENS ∧ (b1.length ≤ 1000000 ∧ ∀ s ∈ b1, GoodPl n s) ∧ (b2.length ≤ 1000000 ∧ ∀ s ∈ b2, GoodPl n s)
def Stp.ok : Stp → Bool
  | .pl _ => true
  | .iff _ _ _ b1 b2 => decide ((b1.length : Int) ≤ 3) && decide ((b2.length : Int) ≤ 3)
theorem plain_pl {n : Int} {s : Pl} (h : GoodPl n s) : s.d.plain = true := by
  show PyData.plainAll (.str s.1 :: s.2) = true
  simp [PyData.plainAll, PyData.plain, plainAll_flat h.flat]
theorem plainAll_pls {n : Int} : ∀ {b : List Pl}, (∀ s ∈ b, GoodPl n s) → PyData.plainAll (b.map Pl.d) = true
  | [], _ => rfl
  | s :: b, h => by
    rw [List.map_cons, PyData.plainAll, plain_pl (h s (by simp)), plainAll_pls fun s hs => h s (by simp [hs])]
    rfl
theorem plainAll_app : ∀ {a b : List PyData}, PyData.plainAll a = true → PyData.plainAll b = true → PyData.plainAll (a ++ b) = true
  | [], _, _, h => h
  | x :: a, b, h, k => by
    simp only [PyData.plainAll, Bool.and_eq_true] at h
    show (x.plain && PyData.plainAll (a ++ b)) = true
    rw [h.1, plainAll_app h.2 k]
    rfl
abbrev spIsStep (K : PySem.W.Frag) : Sp := spP K (fun x : (List PyData × List PyData) × Stp => [wD x.1, x.2.d, .bool true]) (fun x => GoodSt x.1.1.length x.2) (fun x r => r = .bool x.2.ok)
theorem mem_word {xs : List PySem.Str} {s : PySem.Str} (h : s ∈ xs) : wordD xs (.str s) = true := decide_eq_true h
theorem ok_is_step {P : Program} {w : World} {K : PySem.W.Frag} {mg : PySem.Str → Option Value} {base : Heap} {a : Ads} {d : Fds} (T : Txt K mg a d) : FnOk P w K mg base CX0 12 a.is_step d.is_step P_is_step (spIsStep K) := by
  have G_is_plain := ok_is_plain (P := P) (w := w) (base := base) T
  have G_is_name := ok_is_name (P := P) (w := w) (base := base) T
  have G_is_word := ok_is_word (P := P) (w := w) (base := base) T
  have G_is_body := ok_is_body (P := P) (w := w) (base := base) T
  refine T.F_is_step.ok sc_is_step (fun vs H Q E h => ?_) (fun cdv A outer s H vs Q E hr h => ?_)
  · obtain ⟨vol, x, _, ha, _⟩ := h
    have e := ha.length
    rw [e]
    rfl
  refine ⟨_, PSs.nox (pss_cons (ps_if (PW.pt (pw_or (pt_not (pt_val (pe_callB call_isi (by rfl) T.isinstance (by decide +kernel) (pa_cons (pv 1) (pa_cons (pe_bltn (v := .ty "tuple") (by rfl) T.tuple (by decide +kernel) rfl) pa_nil))))) (pw_or (pt_cmpR (oEqP hr.units) (pv 1) (pe_tup pa_nil) rfl) (pw_or1 (pt_not (pt_val (pe_callB call_isi (by rfl) T.isinstance (by decide +kernel) (pa_cons (pe_ix ixTu (pv 1) pe_int (fun _ _ => rfl)) (pa_cons (pe_bltn (v := .ty "str") (by rfl) T.str (by decide +kernel) rfl) pa_nil))))))))) (pss_one (ps_ret pe_bl)) pss_nil) (pss_cons (ps_if (pt_cmpR (oNeP hr.units) (pe_ix ixTu (pv 1) pe_int (fun _ _ => rfl)) (pe_globS T.c_IF rfl) rfl) (pss_one (ps_ret (pe_call G_is_plain (hr.mono (by decide)) rfl T.g_is_plain T.k_is_plain T.b_is_plain .nil pass0 (pa_cons (pv 0) (pa_cons (pv 1) pa_nil))))) pss_nil) (pss_cons (ps_if (PW.pt (pw_or (pt_not (pt_val (pv 2))) (pw_or (pt_cmpR (oNeP hr.units) (pe_callB cLen (by rfl) T.len (by decide +kernel) (pa_cons (pv 1) pa_nil)) pe_int rfl) (pw_or (pt_not (pt_val (pe_call G_is_name (hr.mono (by decide)) rfl T.g_is_name T.k_is_name T.b_is_name .nil pass0 (pa_cons (pe_ix ixTu (pv 1) pe_int (fun _ _ => rfl)) pa_nil)))) (pw_or1 (pt_not (pt_val (pe_call G_is_name (hr.mono (by decide)) rfl T.g_is_name T.k_is_name T.b_is_name .nil pass0 (pa_cons (pe_ix ixTu (pv 1) pe_int (fun _ _ => rfl)) pa_nil))))))))) (pss_one (ps_ret pe_bl)) pss_nil) (pss_one (ps_ret (pe_and (pe_call G_is_word (hr.mono (by decide)) rfl T.g_is_word T.k_is_word T.b_is_word .nil pass0 (pa_cons (pe_ix ixTu (pv 1) pe_int (fun _ _ => rfl)) (pa_cons (pe_globR T.c_SEEN rfl) pa_nil))) (pe_and (pe_call G_is_body (hr.mono (by decide)) rfl T.g_is_body T.k_is_body T.b_is_body .nil pass0 (pa_cons (pv 0) (pa_cons (pe_ix ixTu (pv 1) pe_int (fun _ _ => rfl)) pa_nil))) (pe_one (pe_call G_is_body (hr.mono (by decide)) rfl T.g_is_body T.k_is_body T.b_is_body .nil pass0 (pa_cons (pv 0) (pa_cons (pe_ix ixTu (pv 1) pe_int (fun _ _ => rfl)) pa_nil))))))))))), run_pure h (fun M x hx => ?_)⟩
  try dsimp only [cxOf]
  obtain ⟨⟨ts, rest⟩, st⟩ := x
  cases st with
  | pl s =>
    obtain ⟨wd, r⟩ := s
    have g : GoodPl ts.length (wd, r) := hx
    dsimp only [Stp.d, Pl.d] at hx ⊢
    walk_at "dl"
    refine ⟨_, kit_tuple rfl, ?_⟩
    walk_at "dl"
    walk_at "k"
    refine rd_eqP (okEq_tuples (by have := plain_pl g; simpa [Pl.d, PyData.plain] using this)) ?_
    rw [eqv_cons_nil]
    walk_at "dl"
    refine ⟨_, kit_str rfl, ?_⟩
    walk_at "dl"
    walk_at "k"
    refine rd_neP okEq_ss ?_
    rw [eqv_str, decide_eq_false g.noif]
    walk_at "dl"
    refine ⟨((ts, rest), wd, r), rfl, g.flat, fun q hq => ?_⟩
    rw [hq]
    exact congrArg PyData.bool g.ok
  | iff x y z b1 b2 =>
    obtain ⟨hx1, hy1, hz1, h1, h2⟩ : x ∈ NMS ∧ y ∈ NMS ∧ z ∈ SEENS ∧ (b1.length ≤ 1000000 ∧ ∀ s ∈ b1, GoodPl ts.length s) ∧ (b2.length ≤ 1000000 ∧ ∀ s ∈ b2, GoodPl ts.length s) := hx
    dsimp only [Stp.d]
    walk_at "dl"
    refine ⟨_, kit_tuple rfl, ?_⟩
    walk_at "dl"
    walk_at "k"
    refine rd_eqP (okEq_tuples (by simp [PyData.plainAll, PyData.plain, plainAll_pls h1.2, plainAll_pls h2.2])) ?_
    rw [eqv_cons_nil]
    walk_at "dl"
    refine ⟨_, kit_str rfl, ?_⟩
    walk_at "dl"
    walk_at "k"
    refine rd_neP okEq_ss ?_
    rw [eqv_str, decide_eq_true rfl]
    walk_at "dl"
    refine rd_neP okEq_ii ?_
    rw [eqv_int]
    walk_at "dl"
    walk_at "k"
    refine ⟨.str x, rfl, rfl, fun q hq => ?_⟩; subst hq
    rw [show nameD (.str x) = true from mem_word hx1]
    walk_at "dl"
    refine ⟨.str y, rfl, rfl, fun q hq => ?_⟩; subst hq
    rw [show nameD (.str y) = true from mem_word hy1]
    walk_at "dl"
    refine ed_ktp T.t_SEEN (fun vol H => DtAll.strs SEENS) ?_
    walk_at "dl"
    refine ⟨(.str z, SEENS), rfl, rfl, fun q hq => ?_⟩; subst hq
    rw [show wordD SEENS (.str z) = true from mem_word hz1]
    walk_at "dl"
    refine ⟨((ts, rest), b1), rfl, h1, fun q hq => ?_⟩; subst hq
    walk_at "dl"
    refine ⟨fun hc => ?_, fun hc => ?_⟩
    · walk_at "dl"
      refine ⟨((ts, rest), b2), rfl, h2, fun q hq => ?_⟩; subst hq
      show PyData.bool _ = PyData.bool (_ && _)
      rw [hc, Bool.true_and]
    · show PyData.bool _ = PyData.bool (_ && _)
      rw [hc, Bool.false_and]
def Stp.subs : Stp → List Pl
  | .pl _ => []
  | .iff _ _ _ b1 b2 => b1 ++ b2
def Stp.hd : Stp → PySem.Str
  | .pl s => s.1
  | .iff .. => "if"
def Stp.all (s : Stp) : List PyData := s.d :: s.subs.map Pl.d
def allD (ss : List Stp) : List PyData := ss.flatMap Stp.all
def allW (ss : List Stp) : List PySem.Str := ss.flatMap fun s => s.hd :: s.subs.map (·.1)
def hdD : PyData → PyData
  | .tuple (x :: _) => x
  | _ => .none
theorem hd_st (s : Stp) : hdD s.d = .str s.hd := by cases s <;> rfl
theorem allW_eq : ∀ ss : List Stp, (allD ss).map hdD = (allW ss).map PyData.str
  | [] => rfl
  | s :: ss => by
    show ((s.all ++ allD ss).map hdD) = ((s.hd :: s.subs.map (·.1)) ++ allW ss).map PyData.str
    rw [List.map_append, List.map_append, allW_eq ss]
    congr 1
    show hdD s.d :: (s.subs.map Pl.d).map hdD = PyData.str s.hd :: (s.subs.map (·.1)).map PyData.str
    rw [hd_st, List.map_map, List.map_map]
    rfl
theorem allD_len (ss : List Stp) : (allD ss).length = (allW ss).length := by
  have := congrArg List.length (allW_eq ss)
  simpa using this
theorem allD_take (ss : List Stp) (i : Nat) (s : Stp) (h : ss[i]? = some s) : allD (ss.take (i + 1)) = allD (ss.take i) ++ s.all := by
  unfold allD
  rw [List.take_succ, h, List.flatMap_append]
  simp
theorem allD_le (ss : List Stp) (i : Nat) : (allD (ss.take i)).length ≤ (allD ss).length := by
  have h : allD ss = allD (ss.take i) ++ allD (ss.drop i) := by
    unfold allD
    rw [← List.flatMap_append, List.take_append_drop]
  rw [h, List.length_append]
  omega
def Stp.nf : Stp → Prop
  | .pl s => ¬ s.1 = "if"
  | .iff .. => True
theorem GoodSt.nf {n : Int} {s : Stp} (h : GoodSt n s) : s.nf := by
  cases s with
  | pl s => exact GoodPl.noif h
  | iff => trivial
abbrev spAllSteps (K : PySem.W.Frag) : Sp := spP K (fun ss : List Stp => [.tuple (ss.map Stp.d)]) (fun ss => (allD ss).length ≤ 100000 ∧ ∀ s ∈ ss, s.nf) (fun ss r => r = .list (allD ss))
theorem getElem_map {α β : Type} {f : α → β} {l : List α} {i : Nat} {y : β} (h : (l.map f)[i]? = some y) : ∃ x, l[i]? = some x ∧ y = f x := by
  rw [List.getElem?_map] at h
  cases e : l[i]? with
  | none => rw [e] at h; cases h
  | some x =>
    rw [e] at h
    exact ⟨x, rfl, (Option.some.inj h).symm⟩
theorem ok_all_steps {P : Program} {w : World} {K : PySem.W.Frag} {mg : PySem.Str → Option Value} {base : Heap} {a : Ads} {d : Fds} (T : Txt K mg a d) : FnOk P w K mg base CX0 1 a.all_steps d.all_steps P_all_steps (spAllSteps K) := by
  refine T.F_all_steps.ok sc_all_steps (fun vs H Q E h => ?_) (fun cdv A outer s H vs Q E hr h => ?_)
  · obtain ⟨vol, x, _, ha, _⟩ := h
    have e := ha.length
    rw [e]
    rfl
  refine ⟨_, (pss_cons (ps_set (i := 1) sc_all_steps.nd rfl (Or.inl rfl) (pe_lst pa_nil)) (pss_cons (ps_for PassesOwn.never rfl (pi_tup (pv 0)) (pg_name (i := 2) sc_all_steps.nd rfl (Or.inl rfl)) (pss_cons (ps_set (i := 1) sc_all_steps.nd rfl (Or.inl rfl) (pe_op oCatL (pv 1) (pe_lst (pa_cons (pv 2) pa_nil)))) (pss_one (ps_if (pt_cmpR (oEqP hr.units) (pe_ix ixTu (pv 2) pe_int (fun _ _ => rfl)) (pe_globS T.c_IF rfl) rfl) (pss_one (ps_set (i := 1) sc_all_steps.nd rfl (Or.inl rfl) (pe_op oCatL (pe_op oCatL (pv 1) (pe_callTy cList (by rfl) T.list (by decide +kernel) (pa_cons (pe_ix ixTu (pv 2) pe_int (fun _ _ => rfl)) pa_nil))) (pe_callTy cList (by rfl) T.list (by decide +kernel) (pa_cons (pe_ix ixTu (pv 2) pe_int (fun _ _ => rfl)) pa_nil))))) pss_nil)))) (pss_one (ps_ret (pv 1))))), run_pure h (fun M x hx => ?_)⟩
  try dsimp only [cxOf, List.map_cons, List.map_nil]
  walk_at "dl"
  refine sd_forT ?_
  walk_at "dl"
  refine ⟨fun i ρ' => ∃ e, ρ' = [.dat (.tuple (x.map Stp.d)), .dat (.list (allD (x.take i))), e], ⟨_, rfl⟩, fun i y ρ' hi hI => ?_, fun ρ' hI => ?_⟩
  · obtain ⟨e, rfl⟩ := hI
    obtain ⟨s, hs, rfl⟩ := getElem_map hi
    have nf := hx.2 s (List.mem_of_getElem? hs)
    have hb := Nat.le_trans (allD_le x (i + 1)) hx.1
    rw [allD_take x i s hs, List.length_append] at hb
    have hall : s.all.length = 1 + s.subs.length := by show (s.subs.map Pl.d).length + 1 = _; rw [List.length_map]; omega
    walk_at "dl"
    refine rd_catL (by simp only [List.length_cons, List.length_nil]; omega) ?_
    walk_at "dl"
    cases s with
    | pl p =>
      obtain ⟨wd, r⟩ := p
      have nf' : ¬ wd = "if" := nf
      dsimp only [Stp.d, Pl.d]
      walk_at "dl"
      refine rd_eqP okEq_ss ?_
      rw [eqv_str, decide_eq_false nf']
      walk_at "dl"
      refine ⟨.dat (Stp.d (.pl (wd, r))), ?_⟩
      rw [allD_take x i _ hs]
      rfl
    | iff a b c b1 b2 =>
      dsimp only [Stp.d]
      walk_at "dl"
      refine rd_eqP okEq_ss ?_
      rw [eqv_str, decide_eq_true rfl]
      walk_at "dl"
      have hl : (Stp.iff a b c b1 b2).subs.length = b1.length + b2.length := List.length_append
      refine rd_catL (by simp only [List.length_append, List.length_cons, List.length_nil, List.length_map]; omega) ?_
      walk_at "dl"
      refine rd_catL (by simp only [List.length_append, List.length_cons, List.length_nil, List.length_map]; omega) ?_
      walk_at "dl"
      refine ⟨.dat (Stp.d (.iff a b c b1 b2)), ?_⟩
      rw [allD_take x i _ hs]
      have e2 : (Stp.iff a b c b1 b2).all = [Stp.d (.iff a b c b1 b2)] ++ b1.map Pl.d ++ b2.map Pl.d := by
        show _ :: (b1 ++ b2).map Pl.d = _
        rw [List.map_append]; simp
      rw [e2]
      simp only [List.append_assoc]
      rfl
  · obtain ⟨e, rfl⟩ := hI
    walk_at "dl"
    rw [List.length_map, List.take_length]
theorem countP_strs (s : PySem.Str) : ∀ xs : List PySem.Str, ((xs.map PyData.str).countP fun e => PyData.eqv e (.str s)) = xs.count s
  | [] => rfl
  | x :: xs => by
    rw [List.map_cons, List.countP_cons, countP_strs s xs, eqv_str, List.count_cons]
    by_cases h : x = s
    · simp [h]
    · simp [h]
/-- is_script_of, its steps good -/
def scriptOk (ss : List Stp) : Bool := (decide ((ss.length : Int) ≤ 6) && ss.all Stp.ok) && (decide (((allW ss).length : Int) ≤ 10) && decide (((allW ss).count ("read" : PySem.Str) : Int) ≤ 2))
abbrev spIsScriptOf (K : PySem.W.Frag) : Sp := spP K (fun x : (List PyData × List PyData) × List Stp => [wD x.1, .tuple (x.2.map Stp.d)]) (fun x => (allD x.2).length ≤ 100000 ∧ ∀ s ∈ x.2, GoodSt x.1.1.length s) (fun x r => r = .bool (scriptOk x.2))
theorem len_allD : ∀ ss : List Stp, ss.length ≤ (allD ss).length
  | [] => Nat.zero_le _
  | s :: ss => by
    show ss.length + 1 ≤ (s.all ++ allD ss).length
    have := len_allD ss
    rw [List.length_append]
    have h : 1 ≤ s.all.length := by show 1 ≤ (s.subs.map Pl.d).length + 1; omega
    omega
theorem mem_allD : ∀ {ss : List Stp}, ∀ y ∈ allD ss, ∃ w r, y = .tuple (.str w :: r)
  | [], y, h => by cases h
  | s :: ss, y, h => by
    rcases List.mem_append.mp (show y ∈ s.all ++ allD ss from h) with h | h
    · rcases List.mem_cons.mp (show y ∈ s.d :: s.subs.map Pl.d from h) with rfl | h
      · cases s with
        | pl p => exact ⟨p.1, p.2, rfl⟩
        | iff => exact ⟨_, _, rfl⟩
      · obtain ⟨p, _, rfl⟩ := List.mem_map.mp h
        exact ⟨p.1, p.2, rfl⟩
    · exact mem_allD y h

/-- a step's bodies are short, read off its datum -/
def okD : PyData → Bool
  | .tuple [_, _, _, _, .tuple b1, .tuple b2] => decide ((b1.length : Int) ≤ 3) && decide ((b2.length : Int) ≤ 3)
  | _ => true
theorem okD_eq {n : Int} {s : Stp} (h : GoodSt n s) : okD s.d = s.ok := by
  cases s with
  | iff a b w b1 b2 => simp [Stp.d, okD, Stp.ok]
  | pl p =>
    obtain ⟨wd, r⟩ := p
    have g : Flat r := GoodPl.flat h
    show okD (.tuple (.str wd :: r)) = true
    unfold okD
    split
    · rename_i b1 b2 heq
      have e : PyData.tuple b2 ∈ r := by
        injection heq with h1
        injection h1 with h2 h3
        rw [h3]; simp
      rcases g _ e with h | h <;> simp [isIntD, isStrD] at h
    · rfl
theorem all_okD {n : Int} : ∀ {ss : List Stp}, (∀ s ∈ ss, GoodSt n s) → (ss.map Stp.d).all okD = ss.all Stp.ok
  | [], _ => rfl
  | s :: ss, h => by
    rw [List.map_cons, List.all_cons, List.all_cons, okD_eq (h s (by simp)), all_okD fun s hs => h s (by simp [hs])]
theorem ok_is_script_of {P : Program} {w : World} {K : PySem.W.Frag} {mg : PySem.Str → Option Value} {base : Heap} {a : Ads} {d : Fds} (T : Txt K mg a d) : FnOk P w K mg base CX0 13 a.is_script_of d.is_script_of P_is_script_of (spIsScriptOf K) := by
  have G_all_steps := ok_all_steps (P := P) (w := w) (base := base) T
  have G_is_step := ok_is_step (P := P) (w := w) (base := base) T
  refine T.F_is_script_of.ok sc_is_script_of (fun vs H Q E h => ?_) (fun cdv A outer s H vs Q E hr h => ?_)
  · obtain ⟨vol, x, _, ha, _⟩ := h
    have e := ha.length
    rw [e]
    rfl
  refine ⟨_, (pss_cons (ps_if (PW.pt (pw_or (pt_not (pt_val (pe_callB call_isi (by rfl) T.isinstance (by decide +kernel) (pa_cons (pv 1) (pa_cons (pe_bltn (v := .ty "tuple") (by rfl) T.tuple (by decide +kernel) rfl) pa_nil))))) (pw_or (pt_cmpR oGtI (pe_callB cLen (by rfl) T.len (by decide +kernel) (pa_cons (pv 1) pa_nil)) pe_int rfl) (pw_or1 (pt_not (pt_val (pe_callB (cAll rfl) (by rfl) T.all (by decide +kernel) (pa_cons (pe_lc (own := [("step", 3)]) (g := gName 3) rfl sc_is_script_of.nd (pi_tup (pv 1)) (blkOk_by (own := [("step", 3)]) (N := N_is_script_of) (sc := defScope s_is_script_of) (by decide +kernel)) (fun _ _ _ _ _ => pg_name (i := 3) sc_is_script_of.nd rfl (Or.inl rfl)) (fun _ _ _ _ _ => pts_nil) (fun _ _ _ _ _ => (pe_call (dvs := [.bl true]) G_is_step (hr.mono (by decide)) rfl T.g_is_step T.k_is_step T.bS2 (.cons rfl .nil) pass0 (pa_cons (pv 0) (pa_cons (pv 3) pa_nil))))) pa_nil)))))))) (pss_one (ps_ret pe_bl)) pss_nil) (pss_cons (ps_setLc (i := 2) (own := [("step", 3)]) (g := gName 3) rfl sc_is_script_of.nd rfl rfl (sw_true rfl rfl rfl (by decide +kernel)) (pi_list (pe_call G_all_steps (hr.mono (by decide)) rfl T.g_all_steps T.k_all_steps T.b_all_steps .nil pass0 (pa_cons (pv 1) pa_nil))) (blkOk_by (own := [("step", 3)]) (N := N_is_script_of) (sc := defScope s_is_script_of) (by decide +kernel)) (fun _ _ _ _ _ => pg_name (i := 3) sc_is_script_of.nd rfl (Or.inl rfl)) (fun _ _ _ _ _ => pts_nil) (fun _ _ _ _ _ => (pe_ix (r := rIxTu K) ixTu (pv 3) pe_int (fun _ _ => rfl)))) (pss_one (ps_ret (pe_and (pe_cmpR oLeI (pe_callB cLen (by rfl) T.len (by decide +kernel) (pa_cons (pv 2) pa_nil)) pe_int rfl) (pe_one (pe_cmpR oLeI (pe_bm PySem.F.plainAttrs_list PySem.F.slot_list_count PySem.F.type_list_count (mCount hr.units) (pv 2) (pa_cons (pe_globS T.c_READ rfl) pa_nil)) pe_int rfl))))))), run_pure h (fun M x hx => ?_)⟩
  try dsimp only [cxOf, List.map_cons, List.map_nil]
  obtain ⟨⟨ts, rest⟩, ss⟩ := x
  dsimp only at hx ⊢
  walk_at "dl"
  refine ⟨_, kit_tuple rfl, ?_⟩
  walk_at "dl"
  walk_at "k"
  rw [List.length_map]
  have hl := Nat.le_trans (len_allD ss) hx.1
  refine ⟨fun hc => ?_, fun hc => ?_⟩
  · have h6 : ¬ ((6 : Int) < ss.length) := of_decide_eq_false hc
    walk_at "dl"
    refine ⟨by rw [List.length_map]; omega, fun y => .bool (okD y), fun y hy M' => ?_, ?_⟩
    · obtain ⟨s, hs, rfl⟩ := List.mem_map.mp hy
      refine ed_callD (dds := [.bool true]) (fun _ _ => .cons (.bl true) .nil) ?_
      walk_at "dl"
      refine ⟨((ts, rest), s), rfl, hx.2 s hs, fun q hq => ?_⟩
      rw [hq]
      show PyData.bool s.ok = PyData.bool (okD s.d)
      rw [okD_eq (hx.2 s hs)]
    · walk_at "dl"
      refine cd_allM (p := okD) ?_
      rw [all_okD hx.2]
      refine exB ⟨fun ho => ?_, fun ho => ?_⟩
      · walk_at "dl"
        show PyData.bool _ = PyData.bool (scriptOk ss)
        have ho' : ss.all Stp.ok = false := by simpa using ho
        unfold scriptOk
        rw [ho', Bool.and_false, Bool.false_and]
      · have ho' : ss.all Stp.ok = true := by simpa using ho
        walk_at "dl"
        refine ⟨ss, rfl, ⟨hx.1, fun s hs => (hx.2 s hs).nf⟩, fun q hq => ?_⟩; subst hq
        walk_at "dl"
        refine ⟨Nat.le_trans hx.1 (by decide), hdD, fun y hy M' => ?_, ?_⟩
        · obtain ⟨w, r, rfl⟩ := mem_allD y hy
          walk_at "dl"
          rfl
        · rw [allW_eq]
          walk_at "dl"
          rw [List.length_map]
          have e6 : decide ((ss.length : Int) ≤ 6) = true := decide_eq_true (by omega)
          refine ⟨fun hw => ?_, fun hw => ?_⟩
          · walk_at "dl"
            refine ed_count ?_
            walk_at "dl"
            refine ⟨okIn_strs, ?_⟩
            rw [countP_strs]
            walk_at "dl"
            show PyData.bool _ = PyData.bool (scriptOk ss)
            unfold scriptOk
            rw [ho', e6, hw]
            rfl
          · show PyData.bool _ = PyData.bool (scriptOk ss)
            unfold scriptOk
            rw [ho', e6, hw]
            rfl
  · walk_at "dl"
    show PyData.bool _ = PyData.bool (scriptOk ss)
    have h6 : (6 : Int) < ss.length := of_decide_eq_true hc
    unfold scriptOk
    rw [decide_eq_false (show ¬ ((ss.length : Int) ≤ 6) by omega)]
    rfl
abbrev spNeedScript (K : PySem.W.Frag) : Sp := spP K (fun x : (List PyData × List PyData) × List Stp => [wD x.1, .tuple (x.2.map Stp.d)]) (fun x => ((allD x.2).length ≤ 100000 ∧ ∀ s ∈ x.2, GoodSt x.1.1.length s) ∧ scriptOk x.2 = true) (fun x r => True)
theorem ok_need_script {P : Program} {w : World} {K : PySem.W.Frag} {mg : PySem.Str → Option Value} {base : Heap} {a : Ads} {d : Fds} (T : Txt K mg a d) : FnOk P w K mg base CX0 14 a.need_script d.need_script P_need_script (spNeedScript K) := by
  have G_is_script_of := ok_is_script_of (P := P) (w := w) (base := base) T
  refine T.F_need_script.ok sc_need_script (fun vs H Q E h => ?_) (fun cdv A outer s H vs Q E hr h => ?_)
  · obtain ⟨vol, x, _, ha, _⟩ := h
    have e := ha.length
    rw [e]
    rfl
  refine ⟨_, (pss_one (ps_if (pt_not (pt_val (pe_call G_is_script_of (hr.mono (by decide)) rfl T.g_is_script_of T.k_is_script_of T.b_is_script_of .nil pass0 (pa_cons (pv 0) (pa_cons (pv 1) pa_nil))))) (pss_one ps_never) pss_nil)), run_pure h (fun M x hx => ?_)⟩
  try dsimp only [cxOf, List.map_cons, List.map_nil]
  walk_at "dl"
  refine ⟨x, rfl, hx.1, fun q hq => ?_⟩; subst hq
  rw [hx.2]
  walk_at "dl"
  trivial
end CL
set_option Elab.async false
set_option linter.all false
set_option maxRecDepth 100000
set_option maxHeartbeats 2000000
namespace CL
open PySem L2 DL
local macro_rules | `(tactic| walk_at "dl1") => `(tactic| first
  | ((with_reducible refine' ed_var ?hv ?_); (case hv => exact rfl))
  | with_reducible refine ed_int ?_
  | with_reducible refine ed_str ?_
  | with_reducible refine ed_bl ?_
  | with_reducible refine ed_non ?_
  | with_reducible refine ed_op ?_
  | with_reducible refine ea_cons ?_
  | with_reducible refine ea_nil ?_
  | with_reducible refine ed_isi ?_
  | with_reducible refine ed_cb ?_
  | with_reducible refine ed_call ?_
  | with_reducible refine ed_tup ?_
  | with_reducible refine ed_lst ?_
  | with_reducible refine ed_andV ?_
  | with_reducible refine ed_orV ?_
  | with_reducible refine ed_notV ?_
  | with_reducible refine ed_chain ?_
  | with_reducible refine ed_if ?_
  | with_reducible refine ed_un ?_
  | with_reducible refine ed_sl ?_
  | with_reducible refine ed_revL ?_
  | with_reducible refine ed_m1 ?_
  | with_reducible refine eo_no ?_
  | with_reducible refine eo_some ?_
  | with_reducible refine et_test ?_
  | with_reducible refine et_B ?_
  | with_reducible refine et_and ?_
  | with_reducible refine et_or ?_
  | with_reducible refine et_not ?_
  | with_reducible refine et_yes ?_
  | with_reducible refine sd_seq ?_
  | with_reducible refine sd_next ?_
  | with_reducible refine sd_set ?_
  | with_reducible refine sd_ret ?_
  | with_reducible refine sd_drop ?_
  | with_reducible refine sd_if ?_
  | with_reducible refine sd_par ?_
  | with_reducible refine sd_par3 ?_
  | with_reducible refine rd_addI ?_
  | with_reducible refine rd_subI ?_
  | with_reducible refine rd_ltI ?_
  | with_reducible refine rd_leI ?_
  | with_reducible refine rd_gtI ?_
  | with_reducible refine rd_geI ?_
  | with_reducible refine rd_isNo ?_
  | with_reducible refine rd_notNo ?_
  | with_reducible refine cd_lenL ?_
  | with_reducible refine cd_lenT ?_
  | with_reducible refine cd_abs ?_
  | with_reducible refine cd_intI ?_
  | with_reducible refine cd_intB ?_
  | with_reducible refine cd_strS ?_
  | with_reducible refine cd_listT ?_
  | with_reducible refine cd_tupleL ?_
  | with_reducible refine sd_L ?_
  | with_reducible refine sd_T ?_
  | with_reducible refine gd_name ?_
  | ((with_reducible refine' ed_lcL1y ?hv ?_); (case hv => exact rfl))
  | ((with_reducible refine' ed_lcT1y ?hv ?_); (case hv => exact rfl))
  | ((with_reducible refine' ed_lcL1 ?hv ?_); (case hv => exact rfl))
  | ((with_reducible refine' ed_lcT1 ?hv ?_); (case hv => exact rfl))
  | with_reducible refine exB ?_
  | with_reducible refine exI ?_
  | with_reducible refine exS ?_
  | with_reducible refine exL ?_
  | with_reducible refine exT ?_
  | with_reducible refine exLs ?_
  | with_reducible refine exIs ?_
  | with_reducible refine ex2 ?_
  | with_reducible refine ex3 ?_
  | with_reducible refine ln0 ?_
  | with_reducible refine ln1 ?_
  | with_reducible refine ln2 ?_
  | with_reducible refine ln3 ?_
  | with_reducible refine ln4 ?_
  | with_reducible refine ln5 ?_
  | with_reducible refine ln6 ?_
  | with_reducible refine ln7 ?_
  | with_reducible refine ln8 ?_
  | with_reducible refine ln9 ?_
  | with_reducible refine ln10 ?_
  | with_reducible refine ln11 ?_
  | with_reducible refine ln12 ?_
  | with_reducible refine cTT ?_
  | with_reducible refine cFT ?_
  | with_reducible refine cTF ?_
  | with_reducible refine cFF ?_
  | with_reducible refine nTT ?_
  | with_reducible refine nFT ?_
  | with_reducible refine nTF ?_
  | with_reducible refine nFF ?_
  | refine rd_ixT0 ?_
  | refine rd_ixL0 ?_
  | refine rd_ixT rfl ?_
  | refine rd_ixL rfl ?_)
local macro_rules | `(tactic| walk_at "dl") => `(tactic| repeat (walk_at "dl1"))
local macro_rules | `(tactic| walk_at "call1") => `(tactic| ((refine ⟨_, rfl, ?hcd, fun r hr => ?hcr⟩); (case hcd => first | assumption | rfl); (case hcr => (subst hr; try walk_at "dl"))))
local macro_rules | `(tactic| walk_at "and") => `(tactic| (refine ed_andE ?_; try walk_at "dl"))
local macro_rules | `(tactic| walk_at "k") => `(tactic| ((first | refine ct rfl ?_ | refine cf rfl ?_ | refine ct' rfl ?_ | refine cf' rfl ?_); try walk_at "dl"))
/-! ### lines of a script -/
def lineW : PyData → PySem.Str
  | .str s => s
  | .int i => PySem.Str.ofString (toString i)
  | _ => PySem.Str.empty
def lineD (s : Pl) : PySem.Str := Txt.join " " ((.str s.1 :: s.2).map lineW)
def linesP (b : List Pl) : List PySem.Str := b.map lineD
def Stp.lines : Stp → List PySem.Str
  | .pl s => [lineD s]
  | .iff a b w b1 b2 => ([Txt.join " " ["if", a, b, w]] : List PySem.Str) ++ linesP b1 ++ (["else"] : List PySem.Str) ++ linesP b2 ++ (["end"] : List PySem.Str)
def linesAll (ss : List Stp) : List PySem.Str := ss.flatMap Stp.lines
structure LineOk (s : Pl) : Prop where
  flat : Flat s.2
  noif : ¬ s.1 = "if"
  small : ∀ i, PyData.int i ∈ s.2 → i.natAbs.log2 < 1920
  short : s.2.length ≤ 1000
  len : (((.str s.1 :: s.2).map lineW).map (·.length)).sum + (s.2.length + 1) ≤ 16000000
def Stp.lok : Stp → Prop
  | .pl s => LineOk s
  | .iff a b w b1 b2 => ((∀ s ∈ b1, LineOk s) ∧ b1.length ≤ 10000) ∧ ((∀ s ∈ b2, LineOk s) ∧ b2.length ≤ 10000) ∧ a.length + b.length + w.length ≤ 1000
theorem map_strs (ws : List PyData) (h : ∀ x ∈ ws, ∃ y, (x = .str y)) : True := trivial
theorem linesAll_take (ss : List Stp) (i : Nat) (s : Stp) (h : ss[i]? = some s) : linesAll (ss.take (i + 1)) = linesAll (ss.take i) ++ s.lines := by
  unfold linesAll
  rw [List.take_succ, h, List.flatMap_append]
  simp
theorem linesAll_le (ss : List Stp) (i : Nat) : (linesAll (ss.take i)).length ≤ (linesAll ss).length := by
  have h : linesAll ss = linesAll (ss.take i) ++ linesAll (ss.drop i) := by
    unfold linesAll
    rw [← List.flatMap_append, List.take_append_drop]
  rw [h, List.length_append]
  omega
theorem lineW_map (l : List PyData) : l.map (fun x => PyData.str (lineW x)) = (l.map lineW).map PyData.str := by rw [List.map_map]; rfl
theorem mem_flat {s : Pl} (g : LineOk s) {x : PyData} (h : x ∈ (.str s.1 :: s.2 : List PyData)) : (∃ y, x = .str y) ∨ ∃ i, x = .int i ∧ i.natAbs.log2 < 1920 := by
  rcases List.mem_cons.mp h with rfl | h
  · exact .inl ⟨_, rfl⟩
  · rcases g.flat x h with h1 | h1
    · cases x <;> simp [isIntD] at h1
      exact .inr ⟨_, rfl, g.small _ h⟩
    · cases x <;> simp [isStrD] at h1
      exact .inl ⟨_, rfl⟩
theorem sum_ok {s : Pl} (g : LineOk s) : (((.str s.1 :: s.2).map lineW).map (·.length)).sum + ((.str s.1 :: s.2).map lineW).length * (PySem.Str.ofString " ").length ≤ 16777216 := by
  have h := g.len
  have e : (PySem.Str.ofString " ").length = 1 := by decide +kernel
  have e2 : ((.str s.1 :: s.2).map lineW).length = s.2.length + 1 := by rw [List.length_map, List.length_cons]
  rw [e, e2]
  omega
theorem len_w {s : Pl} (g : LineOk s) : (.str s.1 :: s.2 : List PyData).length ≤ 1000000 ∨ True := .inr trivial
abbrev spLines0 (K : PySem.W.Frag) : Sp := spP K (fun b : List Pl => [.tuple (b.map Pl.d)]) (fun b => (∀ s ∈ b, LineOk s) ∧ b.length ≤ 10000) (fun b r => r = .list ((linesP b).map PyData.str))
theorem ok_lines0 {P : Program} {w : World} {K : PySem.W.Frag} {mg : PySem.Str → Option Value} {base : Heap} {a : Ads} {d : Fds} (T : Txt K mg a d) : FnOk P w K mg base CX0 1 a.lines_of d.lines_of P_lines_of (spLines0 K) := by
  refine T.F_lines_of.ok sc_lines_of (fun vs H Q E h => ?_) (fun cdv A outer s H vs Q E hr h => ?_)
  · obtain ⟨vol, x, _, ha, _⟩ := h
    have e := ha.length
    rw [e]
    rfl
  refine ⟨_, (pss_cons (ps_set (i := 1) sc_lines_of.nd rfl (Or.inl rfl) (pe_lst pa_nil)) (pss_cons (ps_for PassesOwn.never rfl (pi_tup (pv 0)) (pg_name (i := 2) sc_lines_of.nd rfl (Or.inl rfl)) (pss_one (ps_if (pt_cmpR (oEqP hr.units) (pe_ix ixTu (pv 2) pe_int (fun _ _ => rfl)) (pe_globS T.c_IF rfl) rfl) (pss_one ps_never) (pss_one (ps_set (i := 1) sc_lines_of.nd rfl (Or.inl rfl) (pe_op oCatL (pv 1) (pe_lst (pa_cons (pe_m1 F.slot_str_join F.type_str_join mJoin pe_str (pe_lc (own := [("part", 3)]) (g := gName 3) rfl sc_lines_of.nd (pi_tup (pv 2)) (blkOk_by (own := [("part", 3)]) (N := N_lines_of) (sc := defScope s_lines_of) (by decide +kernel)) (fun _ _ _ _ _ => pg_name (i := 3) sc_lines_of.nd rfl (Or.inl rfl)) (fun _ _ _ _ _ => pts_nil) (fun _ _ _ _ _ => (pe_callTy cStr (by rfl) T.str (by decide +kernel) (pa_cons (pv 3) pa_nil))))) pa_nil)))))))) (pss_one (ps_ret (pv 1))))), run_pure h (fun M x hx => ?_)⟩
  try dsimp only [cxOf]
  walk_at "dl"
  refine sd_forT ?_
  walk_at "dl"
  refine ⟨fun i ρ' => ∃ e, ρ' = [.dat (.tuple (x.map Pl.d)), .dat (.list ((linesP (x.take i)).map PyData.str)), e, .no], ⟨_, rfl⟩, fun i y ρ' hi hI => ?_, fun ρ' hI => ?_⟩
  · obtain ⟨e, rfl⟩ := hI
    obtain ⟨⟨wd, r⟩, hs, rfl⟩ := getElem_map hi
    have g := hx.1 _ (List.mem_of_getElem? hs)
    have g2 := g.short
    walk_at "dl"
    dsimp only [Pl.d]
    walk_at "dl"
    refine rd_eqP okEq_ss ?_
    have nf : ¬ wd = "if" := g.noif
    rw [eqv_str, decide_eq_false nf]
    walk_at "dl"
    refine ⟨by rw [List.length_cons]; have : r.length ≤ 1000 := g2; omega, fun x => .str (lineW x), fun y hy M' => ?_, ?_⟩
    · walk_at "dl"
      rcases mem_flat g hy with ⟨z, rfl⟩ | ⟨z, rfl, hz⟩
      · walk_at "dl"
        rfl
      · refine cd_strI hz ?_
        rfl
    · rw [lineW_map]
      refine md_joinL (sum_ok g) ?_
      walk_at "dl"
      refine rd_catL ?_ ?_
      · rw [List.length_map]
        unfold linesP
        rw [List.length_map, List.length_take]
        simp only [List.length_cons, List.length_nil]
        omega
      · walk_at "dl"
        refine ⟨.dat (Pl.d (wd, r)), ?_⟩
        have e2 : linesP (x.take (i + 1)) = linesP (x.take i) ++ [lineD (wd, r)] := by
          unfold linesP
          rw [List.take_succ, hs, List.map_append]
          rfl
        rw [e2, List.map_append]
        rfl
  · obtain ⟨e, rfl⟩ := hI
    walk_at "dl"
    rw [List.length_map, List.take_length]

abbrev spLinesOf (K : PySem.W.Frag) : Sp := spP K (fun ss : List Stp => [.tuple (ss.map Stp.d)]) (fun ss => (∀ s ∈ ss, s.lok) ∧ (linesAll ss).length ≤ 500000) (fun ss r => r = .list ((linesAll ss).map PyData.str))
theorem sum4 {a b w : PySem.Str} (h : a.length + b.length + w.length ≤ 1000) : (([PySem.Str.ofString "if", a, b, w] : List PySem.Str).map (·.length)).sum + ([PySem.Str.ofString "if", a, b, w] : List PySem.Str).length * (PySem.Str.ofString " ").length ≤ 16777216 := by
  have e : (PySem.Str.ofString " ").length = 1 := by decide +kernel
  have e2 : (PySem.Str.ofString "if").length = 2 := by decide +kernel
  simp only [List.map_cons, List.map_nil, List.sum_cons, List.sum_nil, List.length_cons, List.length_nil, e, e2]
  omega
theorem linesP_len (b : List Pl) : (linesP b).length = b.length := List.length_map _
theorem ok_lines_of {P : Program} {w : World} {K : PySem.W.Frag} {mg : PySem.Str → Option Value} {base : Heap} {a : Ads} {d : Fds} (T : Txt K mg a d) : FnOk P w K mg base CX0 2 a.lines_of d.lines_of P_lines_of (spLinesOf K) := by
  have G_lines_of := ok_lines0 (P := P) (w := w) (base := base) T
  refine T.F_lines_of.ok sc_lines_of (fun vs H Q E h => ?_) (fun cdv A outer s H vs Q E hr h => ?_)
  · obtain ⟨vol, x, _, ha, _⟩ := h
    have e := ha.length
    rw [e]
    rfl
  refine ⟨_, (pss_cons (ps_set (i := 1) sc_lines_of.nd rfl (Or.inl rfl) (pe_lst pa_nil)) (pss_cons (ps_for PassesOwn.never rfl (pi_tup (pv 0)) (pg_name (i := 2) sc_lines_of.nd rfl (Or.inl rfl)) (pss_one (ps_if (pt_cmpR (oEqP hr.units) (pe_ix ixTu (pv 2) pe_int (fun _ _ => rfl)) (pe_globS T.c_IF rfl) rfl) (pss_one (ps_set (i := 1) sc_lines_of.nd rfl (Or.inl rfl) (pe_op oCatL (pe_op oCatL (pe_op oCatL (pe_op oCatL (pe_op oCatL (pv 1) (pe_lst (pa_cons (pe_m1 F.slot_str_join F.type_str_join mJoin pe_str (pe_slice slTu (pv 2) po_none (po_some pe_int))) pa_nil))) (pe_call G_lines_of (hr.mono (by decide)) rfl T.g_lines_of T.k_lines_of T.b_lines_of .nil pass0 (pa_cons (pe_ix ixTu (pv 2) pe_int (fun _ _ => rfl)) pa_nil))) (pe_lst (pa_cons (pe_globS T.c_ELSE rfl) pa_nil))) (pe_call G_lines_of (hr.mono (by decide)) rfl T.g_lines_of T.k_lines_of T.b_lines_of .nil pass0 (pa_cons (pe_ix ixTu (pv 2) pe_int (fun _ _ => rfl)) pa_nil))) (pe_lst (pa_cons (pe_globS T.c_END rfl) pa_nil))))) (pss_one (ps_set (i := 1) sc_lines_of.nd rfl (Or.inl rfl) (pe_op oCatL (pv 1) (pe_lst (pa_cons (pe_m1 F.slot_str_join F.type_str_join mJoin pe_str (pe_lc (own := [("part", 3)]) (g := gName 3) rfl sc_lines_of.nd (pi_tup (pv 2)) (blkOk_by (own := [("part", 3)]) (N := N_lines_of) (sc := defScope s_lines_of) (by decide +kernel)) (fun _ _ _ _ _ => pg_name (i := 3) sc_lines_of.nd rfl (Or.inl rfl)) (fun _ _ _ _ _ => pts_nil) (fun _ _ _ _ _ => (pe_callTy cStr (by rfl) T.str (by decide +kernel) (pa_cons (pv 3) pa_nil))))) pa_nil)))))))) (pss_one (ps_ret (pv 1))))), run_pure h (fun M x hx => ?_)⟩
  try dsimp only [cxOf]
  walk_at "dl"
  refine sd_forT ?_
  walk_at "dl"
  refine ⟨fun i ρ' => ∃ e, ρ' = [.dat (.tuple (x.map Stp.d)), .dat (.list ((linesAll (x.take i)).map PyData.str)), e, .no], ⟨_, rfl⟩, fun i y ρ' hi hI => ?_, fun ρ' hI => ?_⟩
  · obtain ⟨e, rfl⟩ := hI
    obtain ⟨st, hs, rfl⟩ := getElem_map hi
    have g := hx.1 _ (List.mem_of_getElem? hs)
    have hb := Nat.le_trans (linesAll_le x (i + 1)) hx.2
    rw [linesAll_take x i st hs, List.length_append] at hb
    walk_at "dl"
    cases st with
    | pl p =>
      obtain ⟨wd, r⟩ := p
      have g : LineOk (wd, r) := g
      have g2 := g.short
      dsimp only [Stp.d, Pl.d]
      walk_at "dl"
      refine rd_eqP okEq_ss ?_
      have nf : ¬ wd = "if" := g.noif
      rw [eqv_str, decide_eq_false nf]
      walk_at "dl"
      refine ⟨by rw [List.length_cons]; have : r.length ≤ 1000 := g2; omega, fun x => .str (lineW x), fun y hy M' => ?_, ?_⟩
      · walk_at "dl"
        rcases mem_flat g hy with ⟨z, rfl⟩ | ⟨z, rfl, hz⟩
        · walk_at "dl"
          rfl
        · refine cd_strI hz ?_
          rfl
      · rw [lineW_map]
        refine md_joinL (sum_ok g) ?_
        walk_at "dl"
        refine rd_catL ?_ ?_
        · rw [List.length_map]
          simp only [List.length_cons, List.length_nil]
          omega
        · walk_at "dl"
          refine ⟨.dat (Pl.d (wd, r)), ?_⟩
          rw [linesAll_take x i _ hs, List.map_append]
          rfl
    | iff a1 b1 w1 c1 c2 =>
      obtain ⟨k1, k2, k3⟩ : ((∀ s ∈ c1, LineOk s) ∧ c1.length ≤ 10000) ∧ ((∀ s ∈ c2, LineOk s) ∧ c2.length ≤ 10000) ∧ a1.length + b1.length + w1.length ≤ 1000 := g
      dsimp only [Stp.d]
      walk_at "dl"
      refine rd_eqP okEq_ss ?_
      rw [eqv_str, decide_eq_true rfl]
      walk_at "dl"
      refine md_joinT (ys := ([PySem.Str.ofString "if", a1, b1, w1] : List PySem.Str)) (sum4 k3) ?_
      have hl1 : (Stp.lines (.iff a1 b1 w1 c1 c2)).length = c1.length + c2.length + 3 := by
        show (_ ++ linesP c1 ++ _ ++ linesP c2 ++ _ : List PySem.Str).length = _
        simp only [List.length_append, linesP_len, List.length_cons, List.length_nil]
        omega
      walk_at "dl"
      refine rd_catL (by simp only [List.length_append, List.length_cons, List.length_nil, List.length_map]; omega) ?_
      walk_at "dl"
      refine ⟨c1, rfl, k1, fun q hq => ?_⟩; subst hq
      refine rd_catL (by simp only [List.length_append, List.length_cons, List.length_nil, List.length_map, linesP_len]; omega) ?_
      walk_at "dl"
      refine rd_catL (by simp only [List.length_append, List.length_cons, List.length_nil, List.length_map, linesP_len]; omega) ?_
      walk_at "dl"
      refine ⟨c2, rfl, k2, fun q hq => ?_⟩; subst hq
      refine rd_catL (by simp only [List.length_append, List.length_cons, List.length_nil, List.length_map, linesP_len]; omega) ?_
      walk_at "dl"
      refine rd_catL (by simp only [List.length_append, List.length_cons, List.length_nil, List.length_map, linesP_len]; omega) ?_
      walk_at "dl"
      refine ⟨.dat (Stp.d (.iff a1 b1 w1 c1 c2)), ?_⟩
      rw [linesAll_take x i _ hs]
      show _ = [_, Ent.dat (.list ((linesAll (x.take i) ++ (([Txt.join " " ["if", a1, b1, w1]] : List PySem.Str) ++ linesP c1 ++ (["else"] : List PySem.Str) ++ linesP c2 ++ (["end"] : List PySem.Str))).map PyData.str)), _, _]
      simp only [List.map_append, List.append_assoc, List.map_cons, List.map_nil]
      rfl
  · obtain ⟨e, rfl⟩ := hI
    walk_at "dl"
    rw [List.length_map, List.take_length]
end CL
set_option Elab.async false
set_option linter.all false
set_option maxRecDepth 100000
set_option maxHeartbeats 2000000
namespace CL
open PySem L2 DL
local macro_rules | `(tactic| walk_at "dl1") => `(tactic| first
  | ((with_reducible refine' ed_var ?hv ?_); (case hv => exact rfl))
  | with_reducible refine ed_int ?_
  | with_reducible refine ed_str ?_
  | with_reducible refine ed_bl ?_
  | with_reducible refine ed_non ?_
  | with_reducible refine ed_op ?_
  | with_reducible refine ea_cons ?_
  | with_reducible refine ea_nil ?_
  | with_reducible refine ed_isi ?_
  | with_reducible refine ed_cb ?_
  | with_reducible refine ed_call ?_
  | with_reducible refine ed_tup ?_
  | with_reducible refine ed_lst ?_
  | with_reducible refine ed_andV ?_
  | with_reducible refine ed_orV ?_
  | with_reducible refine ed_notV ?_
  | with_reducible refine ed_chain ?_
  | with_reducible refine ed_if ?_
  | with_reducible refine ed_un ?_
  | with_reducible refine ed_sl ?_
  | with_reducible refine ed_revL ?_
  | with_reducible refine ed_m1 ?_
  | with_reducible refine eo_no ?_
  | with_reducible refine eo_some ?_
  | with_reducible refine et_test ?_
  | with_reducible refine et_B ?_
  | with_reducible refine et_and ?_
  | with_reducible refine et_or ?_
  | with_reducible refine et_not ?_
  | with_reducible refine et_yes ?_
  | with_reducible refine sd_seq ?_
  | with_reducible refine sd_next ?_
  | with_reducible refine sd_set ?_
  | with_reducible refine sd_ret ?_
  | with_reducible refine sd_drop ?_
  | with_reducible refine sd_if ?_
  | with_reducible refine sd_par ?_
  | with_reducible refine sd_par3 ?_
  | with_reducible refine rd_addI ?_
  | with_reducible refine rd_subI ?_
  | with_reducible refine rd_ltI ?_
  | with_reducible refine rd_leI ?_
  | with_reducible refine rd_gtI ?_
  | with_reducible refine rd_geI ?_
  | with_reducible refine rd_isNo ?_
  | with_reducible refine rd_notNo ?_
  | with_reducible refine cd_lenL ?_
  | with_reducible refine cd_lenT ?_
  | with_reducible refine cd_abs ?_
  | with_reducible refine cd_intI ?_
  | with_reducible refine cd_intB ?_
  | with_reducible refine cd_strS ?_
  | with_reducible refine cd_listT ?_
  | with_reducible refine cd_tupleL ?_
  | with_reducible refine sd_L ?_
  | with_reducible refine sd_T ?_
  | with_reducible refine gd_name ?_
  | ((with_reducible refine' ed_lcL1y ?hv ?_); (case hv => exact rfl))
  | ((with_reducible refine' ed_lcT1y ?hv ?_); (case hv => exact rfl))
  | ((with_reducible refine' ed_lcL1 ?hv ?_); (case hv => exact rfl))
  | ((with_reducible refine' ed_lcT1 ?hv ?_); (case hv => exact rfl))
  | with_reducible refine exB ?_
  | with_reducible refine exI ?_
  | with_reducible refine exS ?_
  | with_reducible refine exL ?_
  | with_reducible refine exT ?_
  | with_reducible refine exLs ?_
  | with_reducible refine exIs ?_
  | with_reducible refine ex2 ?_
  | with_reducible refine ex3 ?_
  | with_reducible refine ln0 ?_
  | with_reducible refine ln1 ?_
  | with_reducible refine ln2 ?_
  | with_reducible refine ln3 ?_
  | with_reducible refine ln4 ?_
  | with_reducible refine ln5 ?_
  | with_reducible refine ln6 ?_
  | with_reducible refine ln7 ?_
  | with_reducible refine ln8 ?_
  | with_reducible refine ln9 ?_
  | with_reducible refine ln10 ?_
  | with_reducible refine ln11 ?_
  | with_reducible refine ln12 ?_
  | with_reducible refine cTT ?_
  | with_reducible refine cFT ?_
  | with_reducible refine cTF ?_
  | with_reducible refine cFF ?_
  | with_reducible refine nTT ?_
  | with_reducible refine nFT ?_
  | with_reducible refine nTF ?_
  | with_reducible refine nFF ?_
  | refine rd_ixT0 ?_
  | refine rd_ixL0 ?_
  | refine rd_ixT rfl ?_
  | refine rd_ixL rfl ?_)
local macro_rules | `(tactic| walk_at "dl") => `(tactic| repeat (walk_at "dl1"))
local macro_rules | `(tactic| walk_at "call1") => `(tactic| ((refine ⟨_, rfl, ?hcd, fun r hr => ?hcr⟩); (case hcd => first | assumption | rfl); (case hcr => (subst hr; try walk_at "dl"))))
local macro_rules | `(tactic| walk_at "and") => `(tactic| (refine ed_andE ?_; try walk_at "dl"))
local macro_rules | `(tactic| walk_at "k") => `(tactic| ((first | refine ct rfl ?_ | refine cf rfl ?_ | refine ct' rfl ?_ | refine cf' rfl ?_); try walk_at "dl"))
/-! ### the law's own lines: a list that grows in place -/
section
variable {K : PySem.W.Frag}
/-- xs.append(e), xs at p -/
theorem app_turn {te : TE} {ρ : Rho} {σ : St} {H : Hp} {p : Addr} {ws : List V} {z : PySem.Str} {D : Ends} {j : Nat} (e : DL.Env K (fun a => a = p) H σ ρ) (hj : σ[j]? = some (some (.ref p))) (hp : H p = some (.lst ws)) (hz : ws.length < 1000000)
    (ht : ∀ M : Md, EvD M K te ρ fun d => d = .str z) (k : ∀ H', Same H H' → D.nx σ (upd H' p (.lst (ws ++ [.str z])))) : tDrop (tBM K "list" rAppend (tVar j) (tCons te tNil)) D σ H := by
  refine ⟨.ref p, hj, .inl ⟨rfl, _, SqL.of hp⟩, ?_⟩
  refine ht (pureM fun a => a = p) σ H e (fun a ha => by subst ha; rw [hp]; intro q; cases q) _ fun v H2 d r2 dv hd => ?_
  subst hd
  cases dv
  exact ⟨p, ws, _, rfl, rfl, r2 p _ hp, Nat.lt_of_lt_of_le hz (by decide), k H2 r2⟩
end
theorem ev_line {K : PySem.W.Frag} {M : Md} {ρ : Rho} {s : Pl} {i j : Nat} (g : LineOk s) (hρ : ρ[i]? = some (.dat s.d)) (hj : ∀ y, (ρ.set j (.dat y))[j]? = some (.dat y)) :
    EvD M K (tM1 (rJoin K) (tC (.str " ")) (tLc (iTup K (tVar i)) (gName j) tYes (tCB rStrT (tCons (tVar j) tNil)) [j])) ρ fun d => d = .str (lineD s) := by
  obtain ⟨wd, r⟩ := s
  have g2 : r.length ≤ 1000 := g.short
  refine ed_m1 (ed_str (exS ?_))
  refine ed_lcT1y rfl (ed_var hρ ?_)
  refine ⟨_, rfl, by show r.length + 1 ≤ 1000000; omega, fun x => .str (lineW x), fun y hy M' => ?_, ?_⟩
  · refine ed_cb (ea_cons (ed_var (hj y) (ea_nil ?_)))
    rcases mem_flat g hy with ⟨z, rfl⟩ | ⟨z, rfl, hz⟩
    · exact cd_strS rfl
    · exact cd_strI hz rfl
  · rw [lineW_map]
    exact md_joinL (sum_ok g) rfl
theorem StD.use {M : Md} {K : PySem.W.Frag} {t : TS} {ρ : Rho} {σ : St} {H : Hp} {Ds : Ends} {nx : Rho → Prop} (e : DL.Env K M.vol H σ ρ) (i : M.inv H) (h : StD M K (fun _ _ => True) t ρ { nx := nx }) (k : ∀ σ' H' ρ', M.R H H' → DL.Env K M.vol H' σ' ρ' → nx ρ' → Ds.nx σ' H') : t Ds σ H :=
  h Ds σ H e i ⟨k, fun _ _ _ _ _ z => z.elim, fun _ _ _ _ _ z => z.elim, fun _ _ _ _ _ z => z.elim, fun _ _ _ _ _ _ _ => trivial⟩
def PvL (K : PySem.W.Frag) (H : Hp) (ls : List PySem.Str) (σ' : St) (H' : Hp) : Prop := Same H H' ∧ ∃ (p : Addr) (o0 e o3 : Option V), σ' = [o0, some (.ref p), e, o3] ∧ H p = none ∧ H' p = some (.lst (ls.map V.str))
theorem dt_move {K : PySem.W.Frag} {vol : Addr → Prop} {H H' : Hp} {p : Addr} {v : V} {d : PyData} (h : Dt K vol H v d) (s : Same H H') (hp : H p = none) : Dt K (fun a => a = p) H' v d :=
  Dt.move (fun a o n q => ⟨s a o q, fun z => by rw [z, hp] at q; cases q⟩) _ _ h
theorem ok_llines0 {P : Program} {w : World} {K : PySem.W.Frag} {mg : PySem.Str → Option Value} {base : Heap} {a : Ads} {d : Fds} (T : Txt K mg a d) : FnOk P w K mg base CX0 1 a.law_lines d.law_lines P_law_lines (spLines0 K) := by
  refine T.F_law_lines.ok sc_law_lines (fun vs H Q E h => ?_) (fun cdv A outer s H vs Q E hr h => ?_)
  · obtain ⟨vol, x, _, ha, _⟩ := h
    have e := ha.length
    rw [e]
    rfl
  refine ⟨_, (pss_cons (ps_set (i := 1) sc_law_lines.nd rfl (Or.inl rfl) (pe_lst pa_nil)) (pss_cons (ps_for PassesOwn.never rfl (pi_tup (pv 0)) (pg_name (i := 2) sc_law_lines.nd rfl (Or.inl rfl)) (pss_one (ps_if (pt_cmpR (oEqP hr.units) (pe_ix ixTu (pv 2) pe_int (fun _ _ => rfl)) pe_str rfl) (pss_cons ps_never (pss_one ps_never)) (pss_one (ps_expr (pe_bm PySem.F.plainAttrs_list PySem.F.slot_list_append PySem.F.type_list_append mt_append (pv 1) (pa_cons (pe_m1 F.slot_str_join F.type_str_join mJoin pe_str (pe_lc (own := [("_law_part", 3)]) (g := gName 3) rfl sc_law_lines.nd (pi_tup (pv 2)) (blkOk_by (own := [("_law_part", 3)]) (N := N_law_lines) (sc := defScope s_law_lines) (by decide +kernel)) (fun _ _ _ _ _ => pg_name (i := 3) sc_law_lines.nd rfl (Or.inl rfl)) (fun _ _ _ _ _ => pts_nil) (fun _ _ _ _ _ => (pe_callTy cStr (by rfl) T.str (by decide +kernel) (pa_cons (pv 3) pa_nil))))) pa_nil))))))) (pss_one (ps_ret (pv 1))))), ?_⟩
  obtain ⟨vol, x, hv, ha, hx, q⟩ := h
  try dsimp only [cxOf]
  cases ha with
  | @cons v0 _ _ _ d0 d1 =>
    cases d1
    have dv0 := d0
    have keepT : ∃ a0 xs, v0 = .ref a0 ∧ DtAll K vol H xs (x.map Pl.d) ∧ ∀ H', Same H H' → SqT K H' a0 xs := by
      cases d0 with
      | tup h1 n h2 => exact ⟨_, _, rfl, h2, fun H' r2 => SqT.of (r2 _ _ h1)⟩
      | ktp h1 h2 => exact ⟨_, _, rfl, h2, fun H' _ => h1 H'⟩
    obtain ⟨a0, xs, rfl, ax, hk⟩ := keepT
    refine ⟨by show 0 ≤ sizeLine; decide, fun p hp => ?_⟩
    refine ⟨.ref a0, rfl, a0, rfl, ⟨xs, hk _ (same_new hp)⟩, ?_⟩
    refine for_tup (xs := xs) (fun i => PvL K H (linesP (x.take i))) ⟨same_new hp, p, _, _, _, rfl, hp, upd_same⟩ (fun i σ' H' _ hP => hk _ hP.1) (fun i y σ' H' hi hP => ?_) (fun σ' H' hP => ?_)
    · obtain ⟨s1, p1, o0, e, o3, rfl, hp1, hp2⟩ := hP
      obtain ⟨dy, hdy, dty⟩ := ax.get hi
      obtain ⟨st, hs, rfl⟩ := getElem_map hdy
      have g := hx.1 _ (List.mem_of_getElem? hs)
      have env : DL.Env K (fun a => a = p1) H' [o0, some (.ref p1), some y, o3] [.no, .adr p1, .dat st.d, .no] :=
        .cons (by cases o0 <;> exact trivial) (.cons rfl (.cons (dt_move dty s1 hp1) (.cons (by cases o3 <;> exact trivial) .nil)))
      have inv : (pureM fun a => a = p1).inv H' := fun a ha => by subst ha; rw [hp2]; intro q; cases q
      have hT : EvT (pureM fun a => a = p1) K (tTest (tOp (rEqP K) (tOp (rIxTu K) (tVar 2) (tC (.int 0))) (tC (.str "if")))) [.no, .adr p1, .dat st.d, .no] (fun b => b = false) := by
        obtain ⟨wd, r⟩ := st
        dsimp only [Pl.d]
        walk_at "dl"
        refine rd_eqP okEq_ss ?_
        have nf : ¬ wd = "if" := g.noif
        rw [eqv_str, decide_eq_false nf]
        exact exB rfl
      refine hT _ H' env inv _ fun b H1 r1 hb => ?_
      subst hb
      rw [if_neg Bool.false_ne_true]
      have e2 : linesP (x.take (i + 1)) = linesP (x.take i) ++ [lineD st] := by
        unfold linesP
        rw [List.take_succ, hs, List.map_append]
        rfl
      refine app_turn (ρ := [.no, .adr p1, .dat st.d, .no]) (z := lineD st) (j := 1) (Env.on (M := pureM fun a => a = p1) r1 env) rfl (r1 p1 _ hp2) ?_ (fun M => ?_) (fun H2 r2 => ?_)
      · rw [List.length_map, linesP_len, List.length_take]; omega
      · exact ev_line (i := 2) (j := 3) g rfl fun y => rfl
      · refine ⟨fun a o ha => ?_, p1, _, _, _, rfl, hp1, ?_⟩
        · rw [upd_ne (ne_of_none ha hp1)]
          exact r2 a o (r1 a o (s1 a o ha))
        · rw [upd_same, e2, List.map_append]; rfl
    · obtain ⟨s1, p1, o0, e, o3, rfl, hp1, hp2⟩ := hP
      have hl : x.take xs.length = x := by rw [ax.length, List.length_map, List.take_length]
      rw [hl] at hp2
      refine ⟨.ref p1, rfl, q _ H' _ s1 (.lst hp2 (fun z => hv p1 z hp1) (.strs _)) rfl⟩

mutual
/-- no list within -/
def lf : PyData → Bool
  | .none | .bool _ | .int _ | .str _ => true
  | .tuple xs => lfAll xs
  | .list _ | .dict _ => false
def lfAll : List PyData → Bool
  | [] => true
  | x :: xs => lf x && lfAll xs
end
section
variable {K : PySem.W.Frag} {vol : Addr → Prop} {H : Hp}
mutual
theorem Dt.lf : ∀ (d : PyData) (v : V), lf d = true → Dt K vol H v d → Dt K (fun a => vol a ∨ ∃ xs, H a = some (.lst xs)) H v d
  | .none, _, _, h => by cases h; exact .non
  | .bool b, _, _, h => by cases h; exact .bl b
  | .int i, _, _, h => by cases h; exact .int i
  | .str x, _, _, h => by cases h; exact .str x
  | .list ds, _, f, h => by cases f
  | .tuple ds, _, f, h => by
    cases h with
    | tup h1 n h2 =>
      refine .tup h1 (fun z => ?_) (DtAll.lf ds _ f h2)
      rcases z with z | ⟨xs, z⟩
      · exact n z
      · rw [h1] at z; cases z
    | ktp h1 h2 => exact .ktp h1 (DtAll.lf ds _ f h2)
  | .dict _, _, _, h => by cases h
theorem DtAll.lf : ∀ (ds : List PyData) (vs : List V), lfAll ds = true → DtAll K vol H vs ds → DtAll K (fun a => vol a ∨ ∃ xs, H a = some (.lst xs)) H vs ds
  | [], _, _, h => by cases h; exact .nil
  | d :: ds, _, f, h => by
    cases h with
    | cons h1 h2 =>
      have f' : CL.lf d = true ∧ lfAll ds = true := by simpa [lfAll] using f
      exact .cons (Dt.lf d _ f'.1 h1) (DtAll.lf ds _ f'.2 h2)
end
end
theorem lfAll_flat : ∀ {r : List PyData}, Flat r → lfAll r = true
  | [], _ => rfl
  | a :: r, h => by
    have h1 := h a (by simp)
    have h2 := lfAll_flat (r := r) fun x hx => h x (by simp [hx])
    cases a <;> simp [isIntD, isStrD] at h1 <;> simp [lfAll, lf, h2]
theorem lf_pls : ∀ {b : List Pl}, (∀ s ∈ b, LineOk s) → lfAll (b.map Pl.d) = true
  | [], _ => rfl
  | s :: b, h => by
    have h1 : lf s.d = true := by show lfAll (.str s.1 :: s.2) = true; simp [lfAll, lf, lfAll_flat (h s (by simp)).flat]
    have h2 := lf_pls (b := b) fun s hs => h s (by simp [hs])
    simp [lfAll, h1, h2]
theorem lf_stp {s : Stp} (h : s.lok) : lf s.d = true := by
  cases s with
  | pl p => show lfAll (.str p.1 :: p.2) = true; simp [lfAll, lf, lfAll_flat (LineOk.flat h)]
  | iff a b w b1 b2 =>
    obtain ⟨k1, k2, k3⟩ : ((∀ s ∈ b1, LineOk s) ∧ b1.length ≤ 10000) ∧ ((∀ s ∈ b2, LineOk s) ∧ b2.length ≤ 10000) ∧ a.length + b.length + w.length ≤ 1000 := h
    simp [Stp.d, lf, lfAll, lf_pls k1.1, lf_pls k2.1]
theorem ok_law_lines {P : Program} {w : World} {K : PySem.W.Frag} {mg : PySem.Str → Option Value} {base : Heap} {a : Ads} {d : Fds} (T : Txt K mg a d) : FnOk P w K mg base CX0 2 a.law_lines d.law_lines P_law_lines (spLinesOf K) := by
  have G_law_lines := ok_llines0 (P := P) (w := w) (base := base) T
  refine T.F_law_lines.ok sc_law_lines (fun vs H Q E h => ?_) (fun cdv A outer s H vs Q E hr h => ?_)
  · obtain ⟨vol, x, _, ha, _⟩ := h
    have e := ha.length
    rw [e]
    rfl
  refine ⟨_, (pss_cons (ps_set (i := 1) sc_law_lines.nd rfl (Or.inl rfl) (pe_lst pa_nil)) (pss_cons (ps_for PassesOwn.never rfl (pi_tup (pv 0)) (pg_name (i := 2) sc_law_lines.nd rfl (Or.inl rfl)) (pss_one (ps_if (pt_cmpR (oEqP hr.units) (pe_ix ixTu (pv 2) pe_int (fun _ _ => rfl)) pe_str rfl) (pss_cons (ps_set (i := 1) sc_law_lines.nd rfl (Or.inl rfl) (pe_op oCatL (pe_op oCatL (pv 1) (pe_lst (pa_cons (pe_m1 F.slot_str_join F.type_str_join mJoin pe_str (pe_callTy cList (by rfl) T.list (by decide +kernel) (pa_cons (pe_slice slTu (pv 2) po_none (po_some pe_int)) pa_nil))) pa_nil))) (pe_call G_law_lines (hr.mono (by decide)) rfl T.g_law_lines T.k_law_lines T.b_law_lines .nil pass0 (pa_cons (pe_ix ixTu (pv 2) pe_int (fun _ _ => rfl)) pa_nil)))) (pss_one (ps_set (i := 1) sc_law_lines.nd rfl (Or.inl rfl) (pe_op oCatL (pe_op oCatL (pe_op oCatL (pv 1) (pe_lst (pa_cons pe_str pa_nil))) (pe_call G_law_lines (hr.mono (by decide)) rfl T.g_law_lines T.k_law_lines T.b_law_lines .nil pass0 (pa_cons (pe_ix ixTu (pv 2) pe_int (fun _ _ => rfl)) pa_nil))) (pe_lst (pa_cons pe_str pa_nil)))))) (pss_one (ps_expr (pe_bm PySem.F.plainAttrs_list PySem.F.slot_list_append PySem.F.type_list_append mt_append (pv 1) (pa_cons (pe_m1 F.slot_str_join F.type_str_join mJoin pe_str (pe_lc (own := [("_law_part", 3)]) (g := gName 3) rfl sc_law_lines.nd (pi_tup (pv 2)) (blkOk_by (own := [("_law_part", 3)]) (N := N_law_lines) (sc := defScope s_law_lines) (by decide +kernel)) (fun _ _ _ _ _ => pg_name (i := 3) sc_law_lines.nd rfl (Or.inl rfl)) (fun _ _ _ _ _ => pts_nil) (fun _ _ _ _ _ => (pe_callTy cStr (by rfl) T.str (by decide +kernel) (pa_cons (pv 3) pa_nil))))) pa_nil))))))) (pss_one (ps_ret (pv 1))))), ?_⟩
  obtain ⟨vol, x, hv, ha, hx, q⟩ := h
  try dsimp only [cxOf]
  cases ha with
  | @cons v0 _ _ _ d0 d1 =>
    cases d1
    have dv0 := d0
    have keepT : ∃ a0 xs, v0 = .ref a0 ∧ DtAll K vol H xs (x.map Stp.d) ∧ ∀ H', Same H H' → SqT K H' a0 xs := by
      cases d0 with
      | tup h1 n h2 => exact ⟨_, _, rfl, h2, fun H' r2 => SqT.of (r2 _ _ h1)⟩
      | ktp h1 h2 => exact ⟨_, _, rfl, h2, fun H' _ => h1 H'⟩
    obtain ⟨a0, xs, rfl, ax, hk⟩ := keepT
    refine ⟨by show 0 ≤ sizeLine; decide, fun p hp => ?_⟩
    refine ⟨.ref a0, rfl, a0, rfl, ⟨xs, hk _ (same_new hp)⟩, ?_⟩
    refine for_tup (xs := xs) (fun i => PvL K H (linesAll (x.take i))) ⟨same_new hp, p, _, _, _, rfl, hp, upd_same⟩ (fun i σ' H' _ hP => hk _ hP.1) (fun i y σ' H' hi hP => ?_) (fun σ' H' hP => ?_)
    · obtain ⟨s1, p1, o0, e, o3, rfl, hp1, hp2⟩ := hP
      obtain ⟨dy, hdy, dty⟩ := ax.get hi
      obtain ⟨st, hs, rfl⟩ := getElem_map hdy
      have g := hx.1 _ (List.mem_of_getElem? hs)
      have hb := Nat.le_trans (linesAll_le x (i + 1)) hx.2
      rw [linesAll_take x i st hs, List.length_append] at hb
      have env : DL.Env K (fun a => a = p1) H' [o0, some (.ref p1), some y, o3] [.no, .adr p1, .dat st.d, .no] :=
        .cons (by cases o0 <;> exact trivial) (.cons rfl (.cons (dt_move dty s1 hp1) (.cons (by cases o3 <;> exact trivial) .nil)))
      have inv : (pureM fun a => a = p1).inv H' := fun a ha => by subst ha; rw [hp2]; intro q; cases q
      cases st with
      | pl st =>
        have g : LineOk st := g
        have hT : EvT (pureM fun a => a = p1) K (tTest (tOp (rEqP K) (tOp (rIxTu K) (tVar 2) (tC (.int 0))) (tC (.str "if")))) [.no, .adr p1, .dat st.d, .no] (fun b => b = false) := by
          obtain ⟨wd, r⟩ := st
          dsimp only [Pl.d]
          walk_at "dl"
          refine rd_eqP okEq_ss ?_
          have nf : ¬ wd = "if" := g.noif
          rw [eqv_str, decide_eq_false nf]
          exact exB rfl
        refine hT _ H' env inv _ fun b H1 r1 hb' => ?_
        subst hb'
        rw [if_neg Bool.false_ne_true]
        refine app_turn (ρ := [.no, .adr p1, .dat st.d, .no]) (z := lineD st) (j := 1) (Env.on (M := pureM fun a => a = p1) r1 env) rfl (r1 p1 _ hp2) ?_ (fun M => ?_) (fun H2 r2 => ?_)
        · rw [List.length_map]; omega
        · exact ev_line (i := 2) (j := 3) g rfl fun y => rfl
        · refine ⟨fun a o ha => ?_, p1, _, _, _, rfl, hp1, ?_⟩
          · rw [upd_ne (ne_of_none ha hp1)]
            exact r2 a o (r1 a o (s1 a o ha))
          · rw [upd_same, linesAll_take x i _ hs, List.map_append]; rfl
      | iff a1 b1 w1 c1 c2 =>
        have g0 : (Stp.iff a1 b1 w1 c1 c2).lok := g
        obtain ⟨k1, k2, k3⟩ : ((∀ s ∈ c1, LineOk s) ∧ c1.length ≤ 10000) ∧ ((∀ s ∈ c2, LineOk s) ∧ c2.length ≤ 10000) ∧ a1.length + b1.length + w1.length ≤ 1000 := g
        have hT : EvT (pureM fun a => a = p1) K (tTest (tOp (rEqP K) (tOp (rIxTu K) (tVar 2) (tC (.int 0))) (tC (.str "if")))) [.no, .adr p1, .dat (Stp.d (.iff a1 b1 w1 c1 c2)), .no] (fun b => b = true) := by
          dsimp only [Stp.d]
          walk_at "dl"
          refine rd_eqP okEq_ss ?_
          rw [eqv_str, decide_eq_true rfl]
          exact exB rfl
        refine hT _ H' env inv _ fun b H1 r1 hb' => ?_
        subst hb'
        rw [if_pos rfl]
        let vol1 : Addr → Prop := fun a => vol a ∨ ∃ xs, H a = some (.lst xs)
        have s2 : Same H H1 := fun a o ha => r1 a o (s1 a o ha)
        have nv : ¬ vol1 p1 := fun z => by
          rcases z with z | ⟨xs, z⟩
          · exact hv p1 z hp1
          · rw [hp1] at z; cases z
        have env1 : DL.Env K vol1 H1 ([o0, some (.ref p1), e, o3].set 2 (some y)) [.no, .dat (.list ((linesAll (x.take i)).map PyData.str)), .dat (Stp.d (.iff a1 b1 w1 c1 c2)), .no] :=
          .cons (by cases o0 <;> exact trivial) (.cons (Dt.lst (r1 _ _ hp2) nv (.strs _)) (.cons (Dt.move (fun a o n q => ⟨s2 a o q, n⟩) _ _ (Dt.lf _ _ (lf_stp g0) dty)) (.cons (by cases o3 <;> exact trivial) .nil)))
        have inv1 : (pureM vol1).inv H1 := fun a ha z => by
          rcases ha with ha | ⟨xs, ha⟩
          · cases q : H a with
            | none => exact hv a ha q
            | some o => rw [s2 a o q] at z; cases z
          · rw [s2 a _ ha] at z; cases z
        have hl1 : (Stp.lines (.iff a1 b1 w1 c1 c2)).length = c1.length + c2.length + 3 := by
          show (_ ++ linesP c1 ++ _ ++ linesP c2 ++ _ : List PySem.Str).length = _
          simp only [List.length_append, linesP_len, List.length_cons, List.length_nil]
          omega
        refine StD.use (M := pureM vol1) (K := K) env1 inv1 (nx := fun ρ' => ∃ e, ρ' = [.no, .dat (.list ((linesAll (x.take (i + 1))).map PyData.str)), e, .no]) ?_ (fun σ2 H2 ρ2 r2 e2 hn => ?_)
        · dsimp only [Stp.d]
          walk_at "dl"
          refine md_joinL (ys := ([PySem.Str.ofString "if", a1, b1, w1] : List PySem.Str)) (sum4 k3) ?_
          walk_at "dl"
          refine rd_catL (by simp only [List.length_append, List.length_cons, List.length_nil, List.length_map]; omega) ?_
          walk_at "dl"
          refine ⟨c1, rfl, k1, fun q hq => ?_⟩; subst hq
          refine rd_catL (by simp only [List.length_append, List.length_cons, List.length_nil, List.length_map, linesP_len]; omega) ?_
          walk_at "dl"
          refine rd_catL (by simp only [List.length_append, List.length_cons, List.length_nil, List.length_map, linesP_len]; omega) ?_
          walk_at "dl"
          refine ⟨c2, rfl, k2, fun q hq => ?_⟩; subst hq
          refine rd_catL (by simp only [List.length_append, List.length_cons, List.length_nil, List.length_map, linesP_len]; omega) ?_
          walk_at "dl"
          refine rd_catL (by simp only [List.length_append, List.length_cons, List.length_nil, List.length_map, linesP_len]; omega) ?_
          walk_at "dl"
          refine ⟨.dat (Stp.d (.iff a1 b1 w1 c1 c2)), ?_⟩
          rw [linesAll_take x i _ hs]
          show _ = [_, Ent.dat (.list ((linesAll (x.take i) ++ (([Txt.join " " ["if", a1, b1, w1]] : List PySem.Str) ++ linesP c1 ++ (["else"] : List PySem.Str) ++ linesP c2 ++ (["end"] : List PySem.Str))).map PyData.str)), _, _]
          simp only [List.map_append, List.append_assoc, List.map_cons, List.map_nil]
          rfl
        · obtain ⟨e9, rfl⟩ := hn
          cases e2 with
          | cons x0 e2 =>
            cases e2 with
            | @cons o1 _ _ _ x1 e2 =>
              cases e2 with
              | cons x2 e2 =>
                cases e2 with
                | cons x3 e2 =>
                  cases e2
                  cases o1 with
                  | none => exact x1.elim
                  | some v1 =>
                    have x1' : Dt K vol1 H2 v1 (.list ((linesAll (x.take (i + 1))).map PyData.str)) := x1
                    cases x1' with
                    | @lst p2 ws _ h1 n h2 =>
                      have s3 : Same H H2 := fun a o ha => r2 a o (s2 a o ha)
                      refine ⟨s3, p2, _, _, _, rfl, ?_, ?_⟩
                      · cases q : H p2 with
                        | none => rfl
                        | some o =>
                          have := s3 p2 o q
                          rw [h1] at this
                          have e := Option.some.inj this
                          subst e
                          exact absurd (Or.inr ⟨_, q⟩) n
                      · rw [← h2.of_strs]; exact h1
    · obtain ⟨s1, p1, o0, e, o3, rfl, hp1, hp2⟩ := hP
      have hl : x.take xs.length = x := by rw [ax.length, List.length_map, List.take_length]
      rw [hl] at hp2
      refine ⟨.ref p1, rfl, q _ H' _ s1 (.lst hp2 (fun z => hv p1 z hp1) (.strs _)) rfl⟩
end CL
set_option Elab.async false
set_option linter.all false
set_option maxRecDepth 100000
set_option maxHeartbeats 2000000
namespace CL
open PySem L2 DL
local macro_rules | `(tactic| walk_at "dl1") => `(tactic| first
  | ((with_reducible refine' ed_var ?hv ?_); (case hv => exact rfl))
  | with_reducible refine ed_int ?_
  | with_reducible refine ed_str ?_
  | with_reducible refine ed_bl ?_
  | with_reducible refine ed_non ?_
  | with_reducible refine ed_op ?_
  | with_reducible refine ea_cons ?_
  | with_reducible refine ea_nil ?_
  | with_reducible refine ed_isi ?_
  | with_reducible refine ed_cb ?_
  | with_reducible refine ed_call ?_
  | with_reducible refine ed_tup ?_
  | with_reducible refine ed_lst ?_
  | with_reducible refine ed_andV ?_
  | with_reducible refine ed_orV ?_
  | with_reducible refine ed_notV ?_
  | with_reducible refine ed_chain ?_
  | with_reducible refine ed_if ?_
  | with_reducible refine ed_un ?_
  | with_reducible refine ed_sl ?_
  | with_reducible refine ed_revL ?_
  | with_reducible refine ed_m1 ?_
  | with_reducible refine eo_no ?_
  | with_reducible refine eo_some ?_
  | with_reducible refine et_test ?_
  | with_reducible refine et_B ?_
  | with_reducible refine et_and ?_
  | with_reducible refine et_or ?_
  | with_reducible refine et_not ?_
  | with_reducible refine et_yes ?_
  | with_reducible refine sd_seq ?_
  | with_reducible refine sd_next ?_
  | with_reducible refine sd_set ?_
  | with_reducible refine sd_ret ?_
  | with_reducible refine sd_drop ?_
  | with_reducible refine sd_if ?_
  | with_reducible refine sd_par ?_
  | with_reducible refine sd_par3 ?_
  | with_reducible refine rd_addI ?_
  | with_reducible refine rd_subI ?_
  | with_reducible refine rd_ltI ?_
  | with_reducible refine rd_leI ?_
  | with_reducible refine rd_gtI ?_
  | with_reducible refine rd_geI ?_
  | with_reducible refine rd_isNo ?_
  | with_reducible refine rd_notNo ?_
  | with_reducible refine cd_lenL ?_
  | with_reducible refine cd_lenT ?_
  | with_reducible refine cd_abs ?_
  | with_reducible refine cd_intI ?_
  | with_reducible refine cd_intB ?_
  | with_reducible refine cd_strS ?_
  | with_reducible refine cd_listT ?_
  | with_reducible refine cd_tupleL ?_
  | with_reducible refine sd_L ?_
  | with_reducible refine sd_T ?_
  | with_reducible refine gd_name ?_
  | ((with_reducible refine' ed_lcL1y ?hv ?_); (case hv => exact rfl))
  | ((with_reducible refine' ed_lcT1y ?hv ?_); (case hv => exact rfl))
  | ((with_reducible refine' ed_lcL1 ?hv ?_); (case hv => exact rfl))
  | ((with_reducible refine' ed_lcT1 ?hv ?_); (case hv => exact rfl))
  | with_reducible refine exB ?_
  | with_reducible refine exI ?_
  | with_reducible refine exS ?_
  | with_reducible refine exL ?_
  | with_reducible refine exT ?_
  | with_reducible refine exLs ?_
  | with_reducible refine exIs ?_
  | with_reducible refine ex2 ?_
  | with_reducible refine ex3 ?_
  | with_reducible refine ln0 ?_
  | with_reducible refine ln1 ?_
  | with_reducible refine ln2 ?_
  | with_reducible refine ln3 ?_
  | with_reducible refine ln4 ?_
  | with_reducible refine ln5 ?_
  | with_reducible refine ln6 ?_
  | with_reducible refine ln7 ?_
  | with_reducible refine ln8 ?_
  | with_reducible refine ln9 ?_
  | with_reducible refine ln10 ?_
  | with_reducible refine ln11 ?_
  | with_reducible refine ln12 ?_
  | with_reducible refine cTT ?_
  | with_reducible refine cFT ?_
  | with_reducible refine cTF ?_
  | with_reducible refine cFF ?_
  | with_reducible refine nTT ?_
  | with_reducible refine nFT ?_
  | with_reducible refine nTF ?_
  | with_reducible refine nFF ?_
  | refine rd_ixT0 ?_
  | refine rd_ixL0 ?_
  | refine rd_ixT rfl ?_
  | refine rd_ixL rfl ?_)
local macro_rules | `(tactic| walk_at "dl") => `(tactic| repeat (walk_at "dl1"))
local macro_rules | `(tactic| walk_at "call1") => `(tactic| ((refine ⟨_, rfl, ?hcd, fun r hr => ?hcr⟩); (case hcd => first | assumption | rfl); (case hcr => (subst hr; try walk_at "dl"))))
local macro_rules | `(tactic| walk_at "and") => `(tactic| (refine ed_andE ?_; try walk_at "dl"))
local macro_rules | `(tactic| walk_at "k") => `(tactic| ((first | refine ct rfl ?_ | refine cf rfl ?_ | refine ct' rfl ?_ | refine cf' rfl ?_); try walk_at "dl"))
/-! ### reading a line -/
def numS (n : Nat) : PySem.Str := PySem.Str.ofString (toString (n : Int))
def intOf (s : PySem.Str) : PyData := match (List.range 21).find? (fun n => decide (numS n = s)) with
  | some n => .int n
  | none => .str s
theorem okEq_si {s : PySem.Str} {t : PySem.Str} : okEq (.str s) (.str t) := okEq_ss
theorem log2_small {i : Nat} (h : i ≤ 1000) : ((i : Int)).natAbs.log2 < 1920 := by
  rw [Int.natAbs_natCast]
  exact Nat.lt_of_le_of_lt (Nat.log2_le_self i) (by omega)
theorem find_range (s : PySem.Str) (n i : Nat) (hi : i < n) (h : numS i = s) (hn : ∀ k, k < i → ¬ numS k = s) : (List.range n).find? (fun n => decide (numS n = s)) = some i := by
  rw [List.find?_eq_some_iff_append]
  refine ⟨decide_eq_true h, List.range i, (List.range' (i + 1) (n - (i + 1))), ?_, fun k hk => ?_⟩
  · rw [List.range_eq_range', List.range_eq_range']
    have e : i :: List.range' (i + 1) (n - (i + 1)) = List.range' i (n - i) := by
      obtain ⟨m, hm⟩ : ∃ m, n - i = m + 1 := ⟨n - i - 1, by omega⟩
      rw [hm, List.range'_succ]
      congr 2
      omega
    rw [e]
    have h2 := List.range'_append (s := 0) (m := i) (n := n - i) (step := 1)
    simp only [Nat.one_mul, Nat.zero_add] at h2
    rw [h2]
    congr 1
    omega
  · have := hn k (List.mem_range.mp hk)
    simpa using this
theorem find_none (s : PySem.Str) (n : Nat) (hn : ∀ k, k < n → ¬ numS k = s) : (List.range n).find? (fun n => decide (numS n = s)) = none := by
  rw [List.find?_eq_none]
  intro k hk
  have := hn k (List.mem_range.mp hk)
  simpa using this
abbrev spIntegerOf (K : PySem.W.Frag) : Sp := spP K (fun s : PySem.Str => [.str s]) (fun _ => True) (fun s r => r = intOf s)
theorem ok_integer_of {P : Program} {w : World} {K : PySem.W.Frag} {mg : PySem.Str → Option Value} {base : Heap} {a : Ads} {d : Fds} (T : Txt K mg a d) : FnOk P w K mg base CX0 1 a.integer_of d.integer_of P_integer_of (spIntegerOf K) := by
  refine T.F_integer_of.ok sc_integer_of (fun vs H Q E h => ?_) (fun cdv A outer s H vs Q E hr h => ?_)
  · obtain ⟨vol, x, _, ha, _⟩ := h
    have e := ha.length
    rw [e]
    rfl
  refine ⟨_, (pss_cons (ps_for PassesOwn.never rfl (pi_range1 rfl T.range (pa_cons pe_int pa_nil)) (pg_name (i := 1) sc_integer_of.nd rfl (Or.inl rfl)) (pss_one (ps_if (pt_cmpR (oEqP hr.units) (pe_callTy cStr (by rfl) T.str (by decide +kernel) (pa_cons (pv 1) pa_nil)) (pv 0) rfl) (pss_one (ps_ret (pv 1))) pss_nil))) (pss_one (ps_ret (pv 0)))), run_pure h (fun M x hx => ?_)⟩
  try dsimp only [cxOf, List.map_cons, List.map_nil]
  walk_at "dl"
  refine sd_forR ?_
  walk_at "dl"
  refine ⟨by omega, fun i ρ' => (∃ e, ρ' = [.dat (.str x), e]) ∧ ∀ k, k < i → ¬ numS k = x, ⟨⟨_, rfl⟩, fun k hk => absurd hk (Nat.not_lt_zero _)⟩, fun i ρ' hi hI => ?_, fun ρ' hI => ?_⟩
  · obtain ⟨⟨e, rfl⟩, hn⟩ := hI
    walk_at "dl"
    refine cd_strI (log2_small (by omega)) ?_
    walk_at "dl"
    refine rd_eqP okEq_ss ?_
    rw [eqv_str]
    refine exB ⟨fun hc => ?_, fun hc => ?_⟩
    · have h : numS i = x := of_decide_eq_true hc
      walk_at "dl"
      show PyData.int i = intOf x
      unfold intOf
      rw [find_range x 21 i (by omega) h hn]
    · have h : ¬ numS i = x := of_decide_eq_false hc
      walk_at "dl"
      refine ⟨⟨_, rfl⟩, fun k hk => ?_⟩
      by_cases hki : k = i
      · rw [hki]; exact h
      · exact hn k (by omega)
  · obtain ⟨⟨e, rfl⟩, hn⟩ := hI
    walk_at "dl"
    show PyData.str x = intOf x
    unfold intOf
    rw [find_none x 21 hn]
theorem intOf_flat (s : PySem.Str) : isIntD (intOf s) = true ∨ isStrD (intOf s) = true := by
  unfold intOf
  split
  · exact .inl rfl
  · exact .inr rfl
/-- what a line is, by itself -/
inductive Row
  | els
  | en
  | hd (a b w : PySem.Str)
  | pl (s : Pl)
def Row.d : Row → PyData
  | .els => .str "else"
  | .en => .str "end"
  | .hd a b w => .tuple [.str "if", .str a, .str b, .str w]
  | .pl s => s.d
/-- the step, or the head of an "if", that a line writes -/
def stepW (n : Int) : List PySem.Str → Option Row
  | [] => none
  | w :: ws =>
    if w = "if" then
      match ws with
      | [a, b, c] => if a ∈ NMS ∧ b ∈ NMS ∧ c ∈ SEENS then some (.hd a b c) else none
      | _ => none
    else
      match intOf w with
      | .str u => if step0 n (.str u :: ws.map intOf) = true then some (.pl (u, ws.map intOf)) else none
      | _ => none
theorem stepW_if {n : Int} {w a b c : PySem.Str} (hw : w = "if") : stepW n [w, a, b, c] = if a ∈ NMS ∧ b ∈ NMS ∧ c ∈ SEENS then some (.hd a b c) else none := by
  show (if _ then _ else _) = _
  rw [if_pos hw]
def stepR (n : Int) (line : PySem.Str) : Option Row := stepW n (Txt.split line " ")
def Row.od : Option Row → PyData
  | none => .none
  | some r => r.d
theorem spl0_ne (S : List Nat) : ∀ (l : List Nat) (acc : List Nat), TL.spl S 0 acc l ≠ []
  | [], acc => by rw [TL.spl_nil]; simp
  | c :: r, acc => by
    cases hp : TL.pre S (c :: r) with
    | true => rw [TL.spl_hit hp]; simp
    | false => rw [TL.spl_miss hp]; exact spl0_ne S r _
theorem sp_all : (PySem.Str.ofString " ").cps.all (· < 256) = true := by decide +kernel
theorem sp_tl : TL.tl (PySem.Str.ofString " ") = [32] := by decide +kernel
theorem split_ne (x : PySem.Str) : Txt.split x " " ≠ [] := by
  intro h
  have e := TL.split_spl x " " (by rw [sp_tl]; simp) (TL.kind_ok sp_all)
  rw [h] at e
  exact spl0_ne _ _ _ e.symm
abbrev spStepOf (K : PySem.W.Frag) : Sp := spP K (fun x : (List PyData × List PyData) × PySem.Str => [wD x.1, .str x.2]) (fun x => x.2.length ≤ 500000) (fun x r => r = Row.od (stepR x.1.1.length x.2))
theorem nd_str {s : PySem.Str} : noDict (.str s) = true := rfl
theorem spl0_len (S : List Nat) : ∀ (n : Nat) (l : List Nat) (acc : List Nat), l.length ≤ n → (TL.spl S 0 acc l).length ≤ l.length + 1
  | _, [], acc, _ => by rw [TL.spl_nil]; simp
  | 0, c :: r, acc, h => by simp at h
  | n + 1, c :: r, acc, h => by
    have hr : r.length ≤ n := by simpa using h
    cases hp : TL.pre S (c :: r) with
    | true =>
      rw [TL.spl_hit hp, TL.spl_pass]
      have h1 : (r.drop (S.length - 1)).length ≤ r.length := by rw [List.length_drop]; omega
      have h2 := spl0_len S n (r.drop (S.length - 1)) [] (by omega)
      simp only [List.length_cons]
      omega
    | false =>
      rw [TL.spl_miss hp]
      have h2 := spl0_len S n r (acc ++ [c]) hr
      simp only [List.length_cons]
      omega
theorem split_lenY {y : PySem.Str} (hy : TL.tl y ≠ []) (hk : y.cps.all (· < 256) = true) (x : PySem.Str) : (Txt.split x y).length ≤ x.length + 1 := by
  have e := congrArg List.length (TL.split_spl x y hy (TL.kind_ok hk))
  rw [List.length_map] at e
  rw [e, TL.len_tl]
  exact spl0_len _ _ _ _ (Nat.le_refl _)
theorem split_len (x : PySem.Str) : (Txt.split x " ").length ≤ x.length + 1 := split_lenY (by rw [sp_tl]; simp) sp_all x
theorem ok_step_of {P : Program} {w : World} {K : PySem.W.Frag} {mg : PySem.Str → Option Value} {base : Heap} {a : Ads} {d : Fds} (T : Txt K mg a d) : FnOk P w K mg base CX0 14 a.step_of d.step_of P_step_of (spStepOf K) := by
  have G_is_name := ok_is_name (P := P) (w := w) (base := base) T
  have G_integer_of := ok_integer_of (P := P) (w := w) (base := base) T
  have G_is_step := ok_is_step0 (P := P) (w := w) (base := base) T
  refine T.F_step_of.ok sc_step_of (fun vs H Q E h => ?_) (fun cdv A outer s H vs Q E hr h => ?_)
  · obtain ⟨vol, x, _, ha, _⟩ := h
    have e := ha.length
    rw [e]
    rfl
  refine ⟨_, (pss_cons (ps_set (i := 2) sc_step_of.nd rfl (Or.inl rfl) (pe_m1 F.slot_str_split F.type_str_split mSplit (pv 1) pe_str)) (pss_cons (ps_if (pt_cmpR (oEqP hr.units) (pe_ix ixLi (pv 2) pe_int (fun _ _ => rfl)) (pe_globS T.c_IF rfl) rfl) (pss_cons (ps_set (i := 3) sc_step_of.nd rfl (Or.inl rfl) (pe_and (pe_cmpR (oEqP hr.units) (pe_callB cLen (by rfl) T.len (by decide +kernel) (pa_cons (pv 2) pa_nil)) pe_int rfl) (pe_and (pe_call G_is_name (hr.mono (by decide)) rfl T.g_is_name T.k_is_name T.b_is_name .nil pass0 (pa_cons (pe_ix ixLi (pv 2) pe_int (fun _ _ => rfl)) pa_nil)) (pe_and (pe_call G_is_name (hr.mono (by decide)) rfl T.g_is_name T.k_is_name T.b_is_name .nil pass0 (pa_cons (pe_ix ixLi (pv 2) pe_int (fun _ _ => rfl)) pa_nil)) (pe_one (pe_cmpR (oInP hr.units) (pe_ix ixLi (pv 2) pe_int (fun _ _ => rfl)) (pe_globR T.c_SEEN rfl) rfl)))))) (pss_one (ps_ret (pe_ifExp (pt_val (pv 3)) (pe_callTy cTuple (by rfl) T.tuple (by decide +kernel) (pa_cons (pv 2) pa_nil)) pe_non)))) pss_nil) (pss_cons (ps_set (i := 4) sc_step_of.nd rfl (Or.inl rfl) (pe_callTy cTuple (by rfl) T.tuple (by decide +kernel) (pa_cons (pe_lc (own := [("word", 5)]) (g := gName 5) rfl sc_step_of.nd (pi_list (pv 2)) (blkOk_by (own := [("word", 5)]) (N := N_step_of) (sc := defScope s_step_of) (by decide +kernel)) (fun _ _ _ _ _ => pg_name (i := 5) sc_step_of.nd rfl (Or.inl rfl)) (fun _ _ _ _ _ => pts_nil) (fun _ _ _ _ _ => (pe_call G_integer_of (hr.mono (by decide)) rfl T.g_integer_of T.k_integer_of T.b_integer_of .nil pass0 (pa_cons (pv 5) pa_nil)))) pa_nil))) (pss_one (ps_ret (pe_ifExp (pt_val (pe_call G_is_step (hr.mono (by decide)) rfl T.g_is_step T.k_is_step T.bS3 .nil pass0 (pa_cons (pv 0) (pa_cons (pv 4) (pa_cons pe_bl pa_nil))))) (pv 4) pe_non)))))), run_pure h (fun M x hx => ?_)⟩
  try dsimp only [cxOf]
  obtain ⟨⟨ts, rest⟩, line⟩ := x
  dsimp only at hx ⊢
  walk_at "dl"
  refine md_split (by decide +kernel) (Nat.le_trans hx (by decide)) ?_
  have hne := split_ne line
  have hsl := split_len line
  unfold stepR
  generalize hws : Txt.split line " " = ws at hne hsl ⊢
  cases ws with
  | nil => exact absurd rfl hne
  | cons w ws =>
    walk_at "dl"
    refine rd_eqP okEq_ss ?_
    rw [eqv_str]
    refine exB ⟨fun hc => ?_, fun hc => ?_⟩
    · have hw : w = "if" := of_decide_eq_true hc
      walk_at "dl"
      refine rd_eqP okEq_ii ?_
      rw [eqv_int]
      refine exB ⟨fun h4 => ?_, fun h4 => ?_⟩
      · have h3 : ws.length = 3 := by have := of_decide_eq_true h4; simp only [List.length_map, List.length_cons] at this; omega
        obtain ⟨a1, b1, c1, rfl⟩ := len3 h3
        walk_at "and"
        refine ⟨.str a1, rfl, rfl, fun r hr => ?_⟩; subst hr
        refine ⟨_, nameD (.str b1) && decide (c1 ∈ SEENS), rfl, ?_, ?_⟩
        · walk_at "and"
          refine ⟨.str b1, rfl, rfl, fun r hr => ?_⟩; subst hr
          refine ⟨_, decide (c1 ∈ SEENS), rfl, ?_, rfl⟩
          walk_at "dl"
          refine ed_ktp T.t_SEEN (fun vol H => DtAll.strs SEENS) ?_
          refine rd_inT (es := SEENS.map PyData.str) okIn_strs ?_
          rw [any_strs]
        · walk_at "dl"
          refine ⟨fun hg => ?_, fun hg => ?_⟩
          · walk_at "dl"
            have hg2 : a1 ∈ NMS ∧ b1 ∈ NMS ∧ c1 ∈ SEENS := by
              simp only [Bool.and_eq_true] at hg
              exact ⟨of_decide_eq_true hg.1, of_decide_eq_true hg.2.1, of_decide_eq_true hg.2.2⟩
            rw [stepW_if hw, if_pos hg2, hw]
            rfl
          · walk_at "dl"
            have hg2 : ¬ (a1 ∈ NMS ∧ b1 ∈ NMS ∧ c1 ∈ SEENS) := fun h => by
              have e : (nameD (.str a1) && (nameD (.str b1) && decide (c1 ∈ SEENS))) = true := by
                show (decide (a1 ∈ NMS) && (decide (b1 ∈ NMS) && decide (c1 ∈ SEENS))) = true
                rw [decide_eq_true h.1, decide_eq_true h.2.1, decide_eq_true h.2.2]; rfl
              rw [e] at hg; cases hg
            rw [stepW_if hw, if_neg hg2]
            rfl
      · walk_at "dl"
        have h3 : ¬ ws.length = 3 := by have := of_decide_eq_false h4; simp only [List.length_map, List.length_cons] at this; omega
        show PyData.none = Row.od (if _ then _ else _)
        rw [if_pos hw]
        split
        · exact absurd rfl h3
        · rfl
    · have hw : ¬ w = "if" := of_decide_eq_false hc
      walk_at "dl"
      refine ⟨by rw [List.length_map]; have : (w :: ws).length ≤ line.length + 1 := hsl; omega, fun x => (match x with | .str s => intOf s | _ => .none), fun y hy M' => ?_, ?_⟩
      · obtain ⟨s1, hs1, rfl⟩ := List.mem_map.mp hy
        walk_at "dl"
        exact ⟨s1, rfl, trivial, fun r hr => hr⟩
      · rw [List.map_map]
        have em : ((fun x => (match x with | .str s => intOf s | _ => .none : PyData)) ∘ PyData.str) = intOf := rfl
        rw [em]
        walk_at "dl"
        have fl : Flat ((w :: ws).map intOf) := fun x hx => by
          obtain ⟨s, _, rfl⟩ := List.mem_map.mp hx
          exact intOf_flat s
        refine ⟨((ts, rest), intOf w, ws.map intOf), rfl, fl, fun r hr => ?_⟩; subst hr
        have res : Row.od (stepW ts.length (w :: ws)) = if step0 ts.length (intOf w :: ws.map intOf) = true then .tuple ((w :: ws).map intOf) else .none := by
          show Row.od (if _ then _ else _) = _
          rw [if_neg hw]
          rcases intOf_flat w with h1 | h1
          · cases hi : intOf w <;> rw [hi] at h1 <;> simp [isIntD] at h1
            rfl
          · cases hi : intOf w <;> rw [hi] at h1 <;> simp [isStrD] at h1
            dsimp only
            split
            · show PyData.tuple _ = PyData.tuple _
              rw [List.map_cons, hi]
            · rfl
        walk_at "dl"
        rw [res]
        refine ⟨fun hg => ?_, fun hg => ?_⟩
        · walk_at "dl"
          rw [if_pos hg]
        · walk_at "dl"
          rw [if_neg (by rw [hg]; exact Bool.false_ne_true)]
end CL
set_option Elab.async false
set_option linter.all false
set_option maxRecDepth 100000
set_option maxHeartbeats 2000000
namespace CL
open PySem L2 DL
local macro_rules | `(tactic| walk_at "dl1") => `(tactic| first
  | ((with_reducible refine' ed_var ?hv ?_); (case hv => exact rfl))
  | with_reducible refine ed_int ?_
  | with_reducible refine ed_str ?_
  | with_reducible refine ed_bl ?_
  | with_reducible refine ed_non ?_
  | with_reducible refine ed_op ?_
  | with_reducible refine ea_cons ?_
  | with_reducible refine ea_nil ?_
  | with_reducible refine ed_isi ?_
  | with_reducible refine ed_cb ?_
  | with_reducible refine ed_call ?_
  | with_reducible refine ed_tup ?_
  | with_reducible refine ed_lst ?_
  | with_reducible refine ed_andV ?_
  | with_reducible refine ed_orV ?_
  | with_reducible refine ed_notV ?_
  | with_reducible refine ed_chain ?_
  | with_reducible refine ed_if ?_
  | with_reducible refine ed_un ?_
  | with_reducible refine ed_sl ?_
  | with_reducible refine ed_revL ?_
  | with_reducible refine ed_m1 ?_
  | with_reducible refine eo_no ?_
  | with_reducible refine eo_some ?_
  | with_reducible refine et_test ?_
  | with_reducible refine et_B ?_
  | with_reducible refine et_and ?_
  | with_reducible refine et_or ?_
  | with_reducible refine et_not ?_
  | with_reducible refine et_yes ?_
  | with_reducible refine sd_seq ?_
  | with_reducible refine sd_next ?_
  | with_reducible refine sd_set ?_
  | with_reducible refine sd_ret ?_
  | with_reducible refine sd_drop ?_
  | with_reducible refine sd_if ?_
  | with_reducible refine sd_par ?_
  | with_reducible refine sd_par3 ?_
  | with_reducible refine rd_addI ?_
  | with_reducible refine rd_subI ?_
  | with_reducible refine rd_ltI ?_
  | with_reducible refine rd_leI ?_
  | with_reducible refine rd_gtI ?_
  | with_reducible refine rd_geI ?_
  | with_reducible refine rd_isNo ?_
  | with_reducible refine rd_notNo ?_
  | with_reducible refine cd_lenL ?_
  | with_reducible refine cd_lenT ?_
  | with_reducible refine cd_abs ?_
  | with_reducible refine cd_intI ?_
  | with_reducible refine cd_intB ?_
  | with_reducible refine cd_strS ?_
  | with_reducible refine cd_listT ?_
  | with_reducible refine cd_tupleL ?_
  | with_reducible refine sd_L ?_
  | with_reducible refine sd_T ?_
  | with_reducible refine gd_name ?_
  | ((with_reducible refine' ed_lcL1y ?hv ?_); (case hv => exact rfl))
  | ((with_reducible refine' ed_lcT1y ?hv ?_); (case hv => exact rfl))
  | ((with_reducible refine' ed_lcL1 ?hv ?_); (case hv => exact rfl))
  | ((with_reducible refine' ed_lcT1 ?hv ?_); (case hv => exact rfl))
  | with_reducible refine exB ?_
  | with_reducible refine exI ?_
  | with_reducible refine exS ?_
  | with_reducible refine exL ?_
  | with_reducible refine exT ?_
  | with_reducible refine exLs ?_
  | with_reducible refine exIs ?_
  | with_reducible refine ex2 ?_
  | with_reducible refine ex3 ?_
  | with_reducible refine ln0 ?_
  | with_reducible refine ln1 ?_
  | with_reducible refine ln2 ?_
  | with_reducible refine ln3 ?_
  | with_reducible refine ln4 ?_
  | with_reducible refine ln5 ?_
  | with_reducible refine ln6 ?_
  | with_reducible refine ln7 ?_
  | with_reducible refine ln8 ?_
  | with_reducible refine ln9 ?_
  | with_reducible refine ln10 ?_
  | with_reducible refine ln11 ?_
  | with_reducible refine ln12 ?_
  | with_reducible refine cTT ?_
  | with_reducible refine cFT ?_
  | with_reducible refine cTF ?_
  | with_reducible refine cFF ?_
  | with_reducible refine nTT ?_
  | with_reducible refine nFT ?_
  | with_reducible refine nTF ?_
  | with_reducible refine nFF ?_
  | refine rd_ixT0 ?_
  | refine rd_ixL0 ?_
  | refine rd_ixT rfl ?_
  | refine rd_ixL rfl ?_)
local macro_rules | `(tactic| walk_at "dl") => `(tactic| repeat (walk_at "dl1"))
local macro_rules | `(tactic| walk_at "call1") => `(tactic| ((refine ⟨_, rfl, ?hcd, fun r hr => ?hcr⟩); (case hcd => first | assumption | rfl); (case hcr => (subst hr; try walk_at "dl"))))
local macro_rules | `(tactic| walk_at "and") => `(tactic| (refine ed_andE ?_; try walk_at "dl"))
local macro_rules | `(tactic| walk_at "k") => `(tactic| ((first | refine ct rfl ?_ | refine cf rfl ?_ | refine ct' rfl ?_ | refine cf' rfl ?_); try walk_at "dl"))
/-! ### put_together -/
structure PT where
  found : List Stp
  head : Option (PySem.Str × PySem.Str × PySem.Str)
  first : Option (List Pl)
  body : List Pl
def ptStep (s : PT) : Row → Option PT
  | .els => match s.head, s.first with
    | some _, none => some { s with first := some s.body, body := [] }
    | _, _ => none
  | .en => match s.first, s.head with
    | some f, some (a, b, w) => some ⟨s.found ++ [.iff a b w f s.body], none, none, []⟩
    | _, _ => none
  | .hd a b w => match s.head with
    | none => some { s with head := some (a, b, w), body := [] }
    | some _ => none
  | .pl p => match s.head with
    | some _ => some { s with body := s.body ++ [p] }
    | none => some { s with found := s.found ++ [.pl p] }
def ptRun (s : PT) : List Row → Option PT
  | [] => some s
  | r :: rs => match ptStep s r with
    | some t => ptRun t rs
    | none => none
def ptAll (rows : List Row) : Option (List Stp) := match ptRun ⟨[], none, none, []⟩ rows with
  | some s => match s.head with
    | none => some s.found
    | some _ => none
  | none => none
theorem ptRun_app : ∀ (s : PT) (rs ts : List Row), ptRun s (rs ++ ts) = match ptRun s rs with
    | some t => ptRun t ts
    | none => none
  | _, [], _ => rfl
  | s, r :: rs, ts => by
    show (match ptStep s r with
      | some t => ptRun t (rs ++ ts)
      | none => none) = _
    cases h : ptStep s r with
    | none => simp [ptRun, h]
    | some t =>
      simp only [ptRun, h]
      exact ptRun_app t rs ts
def hdT : Option (PySem.Str × PySem.Str × PySem.Str) → PyData
  | none => .none
  | some (a, b, w) => .tuple [.str "if", .str a, .str b, .str w]
def fsT : Option (List Pl) → PyData
  | none => .none
  | some f => .tuple (f.map Pl.d)
structure PT.Wf (s : PT) (i : Nat) : Prop where
  hf : s.first.isSome = true → s.head.isSome = true
  nf : s.found.length ≤ i
  nb : s.body.length ≤ i
def Row.ok : Row → Prop
  | .pl p => ¬ p.1 = "if" ∧ Flat p.2
  | _ => True
theorem row_plain {r : Row} (h : r.ok) : r.d.plain = true := by
  cases r with
  | els => rfl
  | en => rfl
  | hd => rfl
  | pl p => show PyData.plainAll (.str p.1 :: p.2) = true; simp [PyData.plainAll, PyData.plain, plainAll_flat h.2]
theorem okEq_row {r : Row} (h : r.ok) {s : PySem.Str} : okEq r.d (.str s) := ⟨row_plain h, rfl, by simp [PyData.depth]⟩
theorem okIn_row {r : Row} (h : r.ok) {xs : List PySem.Str} : okIn r.d (xs.map PyData.str) := ⟨row_plain h, plainAll_strs xs, by rw [depthAll_strs]; simp⟩
theorem eqv_ts {xs : List PyData} {s : PySem.Str} : PyData.eqv (.tuple xs) (.str s) = false := by simp [PyData.eqv]
theorem eqv_st {xs : List PyData} {s : PySem.Str} : PyData.eqv (.str s) (.tuple xs) = false := by simp [PyData.eqv]
def rho9 (rows : List Row) (s : PT) (e : Ent) : Rho := [.dat (.list (rows.map Row.d)), .dat (.list (s.found.map Stp.d)), .dat (hdT s.head), .dat (fsT s.first), .dat (.list (s.body.map Pl.d)), e]
abbrev spPutTogether (K : PySem.W.Frag) : Sp := spP K (fun rows : List Row => [.list (rows.map Row.d)]) (fun rows => (∀ r ∈ rows, r.ok) ∧ rows.length ≤ 400000) (fun rows r => r = match ptAll rows with
  | none => .none
  | some ss => .tuple (ss.map Stp.d))
theorem isNo_hd {h : Option (PySem.Str × PySem.Str × PySem.Str)} : isNo (hdT h) = h.isNone := by
  cases h <;> rfl
theorem isNo_fs {h : Option (List Pl)} : isNo (fsT h) = h.isNone := by
  cases h <;> rfl
theorem ptAll_none {rows : List Row} {i : Nat} {s : PT} {r : Row} (h : ptRun ⟨[], none, none, []⟩ (rows.take i) = some s) (hr : rows[i]? = some r) (hs : ptStep s r = none) : ptAll rows = none := by
  have e : rows = rows.take i ++ (r :: rows.drop (i + 1)) := by
    have h1 := List.take_append_drop i rows
    obtain ⟨hi, hg⟩ := List.getElem?_eq_some_iff.mp hr
    rw [List.drop_eq_getElem_cons hi, hg] at h1
    exact h1.symm
  unfold ptAll
  rw [e, ptRun_app, h]
  simp only [ptRun, hs]
theorem ptRun_step {rows : List Row} {i : Nat} {s t : PT} {r : Row} (h : ptRun ⟨[], none, none, []⟩ (rows.take i) = some s) (hr : rows[i]? = some r) (hs : ptStep s r = some t) : ptRun ⟨[], none, none, []⟩ (rows.take (i + 1)) = some t := by
  rw [List.take_succ, hr, ptRun_app, h]
  show ptRun s [r] = some t
  simp only [ptRun, hs]
theorem ok_put_together {P : Program} {w : World} {K : PySem.W.Frag} {mg : PySem.Str → Option Value} {base : Heap} {a : Ads} {d : Fds} (T : Txt K mg a d) : FnOk P w K mg base CX0 1 a.put_together d.put_together P_put_together (spPutTogether K) := by
  refine T.F_put_together.ok sc_put_together (fun vs H Q E h => ?_) (fun cdv A outer s H vs Q E hr h => ?_)
  · obtain ⟨vol, x, _, ha, _⟩ := h
    have e := ha.length
    rw [e]
    rfl
  refine ⟨_, (pss_cons (ps_par3 rfl sc_put_together.nd (i := 1) (j := 2) (l := 3) rfl rfl rfl (by decide) (by decide) (by decide) rfl rfl rfl (pa_cons (pe_lst pa_nil) (pa_cons pe_non (pa_cons pe_non pa_nil))) rfl) (pss_cons (ps_set (i := 4) sc_put_together.nd rfl (Or.inl rfl) (pe_lst pa_nil)) (pss_cons (ps_for PassesOwn.never rfl (pi_list (pv 0)) (pg_name (i := 5) sc_put_together.nd rfl (Or.inl rfl)) (pss_one (ps_if (PW.pt (pw_and (pt_cmpR (oEqP hr.units) (pv 5) (pe_globS T.c_ELSE rfl) rfl) (pw_and (pt_cmpR oNotNo (pv 2) pe_non rfl) (pw_and1 (pt_cmpR oIsNo (pv 3) pe_non rfl))))) (pss_one (ps_par rfl sc_put_together.nd (i := 3) (j := 4) rfl rfl (by decide) rfl rfl (pa_cons (pe_callTy cTuple (by rfl) T.tuple (by decide +kernel) (pa_cons (pv 4) pa_nil)) (pa_cons (pe_lst pa_nil) pa_nil)) rfl)) (pss_one (ps_if (PW.pt (pw_and (pt_cmpR (oEqP hr.units) (pv 5) (pe_globS T.c_END rfl) rfl) (pw_and1 (pt_cmpR oNotNo (pv 3) pe_non rfl)))) (pss_one (ps_asg (pe_tup (pa_cons (pe_op oCatL (pv 1) (pe_lst (pa_cons (pe_op oCatT (pv 2) (pe_tup (pa_cons (pv 3) (pa_cons (pe_callTy cTuple (by rfl) T.tuple (by decide +kernel) (pa_cons (pv 4) pa_nil)) pa_nil)))) pa_nil))) (pa_cons pe_non (pa_cons pe_non (pa_cons (pe_lst pa_nil) pa_nil))))) (pg_tup rfl (pgs_cons (pg_name (i := 1) sc_put_together.nd rfl (Or.inl rfl)) (pgs_cons (pg_name (i := 2) sc_put_together.nd rfl (Or.inl rfl)) (pgs_cons (pg_name (i := 3) sc_put_together.nd rfl (Or.inl rfl)) (pgs_cons (pg_name (i := 4) sc_put_together.nd rfl (Or.inl rfl)) pgs_nil))))))) (pss_one (ps_if (PW.pt (pw_or (pt_cmpR (oInP hr.units) (pv 5) (pe_tup (pa_cons (pe_globS T.c_ELSE rfl) (pa_cons (pe_globS T.c_END rfl) pa_nil))) rfl) (pw_or1 (PW.pt (pw_and (pt_cmpR (oEqP hr.units) (pe_ix ixTu (pv 5) pe_int (fun _ _ => rfl)) (pe_globS T.c_IF rfl) rfl) (pw_and1 (pt_cmpR oNotNo (pv 2) pe_non rfl))))))) (pss_one (ps_ret pe_non)) (pss_one (ps_if (pt_cmpR (oEqP hr.units) (pe_ix ixTu (pv 5) pe_int (fun _ _ => rfl)) (pe_globS T.c_IF rfl) rfl) (pss_one (ps_par rfl sc_put_together.nd (i := 2) (j := 4) rfl rfl (by decide) rfl rfl (pa_cons (pv 5) (pa_cons (pe_lst pa_nil) pa_nil)) rfl)) (pss_one (ps_if (pt_cmpR oNotNo (pv 2) pe_non rfl) (pss_one (ps_set (i := 4) sc_put_together.nd rfl (Or.inl rfl) (pe_op oCatL (pv 4) (pe_lst (pa_cons (pv 5) pa_nil))))) (pss_one (ps_set (i := 1) sc_put_together.nd rfl (Or.inl rfl) (pe_op oCatL (pv 1) (pe_lst (pa_cons (pv 5) pa_nil)))))))))))))))) (pss_one (ps_ret (pe_ifExp (pt_cmpR oNotNo (pv 2) pe_non rfl) pe_non (pe_callTy cTuple (by rfl) T.tuple (by decide +kernel) (pa_cons (pv 1) pa_nil)))))))), run_pure h (fun M x hx => ?_)⟩
  try dsimp only [cxOf, List.map_cons, List.map_nil]
  walk_at "dl"
  refine sd_forL ?_
  walk_at "dl"
  refine ⟨fun i ρ' => ∃ s e, ρ' = rho9 x s e ∧ ptRun ⟨[], none, none, []⟩ (x.take i) = some s ∧ s.Wf i, ⟨⟨[], none, none, []⟩, _, rfl, rfl, ⟨fun h => (by cases h), Nat.le_refl _, Nat.le_refl _⟩⟩, fun i y ρ' hi hI => ?_, fun ρ' hI => ?_⟩
  · obtain ⟨s, e, rfl, hrun, wf⟩ := hI
    obtain ⟨r, hr, rfl⟩ := getElem_map hi
    have hrok := hx.1 r (List.mem_of_getElem? hr)
    have hil : i < x.length := (List.getElem?_eq_some_iff.mp hr).1
    have hxl : x.length ≤ 400000 := hx.2
    have nf := wf.nf
    have nb := wf.nb
    obtain ⟨fo, hd, fs, bo⟩ := s
    walk_at "dl"
    refine rd_eqP (okEq_row hrok) ?_
    cases r with
    | els =>
      dsimp only [Row.d]
      rw [eqv_str, decide_eq_true rfl]
      walk_at "dl"
      rw [isNo_hd]
      cases hd with
      | none =>
        walk_at "k"
        refine rd_eqP okEq_ss ?_
        rw [eqv_str, decide_eq_false (by decide +kernel)]
        walk_at "dl"
        refine rd_inT (es := (["else", "end"] : List PySem.Str).map PyData.str) okIn_strs ?_
        rw [any_strs, decide_eq_true (by simp)]
        walk_at "dl"
        rw [ptAll_none hrun hr rfl]
      | some h0 =>
        walk_at "k"
        rw [isNo_fs]
        cases fs with
        | none =>
          walk_at "k"
          refine ⟨⟨fo, some h0, some bo, []⟩, _, rfl, ptRun_step hrun hr rfl, ⟨fun _ => rfl, Nat.le_succ_of_le nf, Nat.zero_le _⟩⟩
        | some f =>
          walk_at "k"
          refine rd_eqP okEq_ss ?_
          rw [eqv_str, decide_eq_false (by decide +kernel)]
          walk_at "dl"
          refine rd_inT (es := (["else", "end"] : List PySem.Str).map PyData.str) okIn_strs ?_
          rw [any_strs, decide_eq_true (by simp)]
          walk_at "dl"
          rw [ptAll_none hrun hr rfl]
    | en =>
      dsimp only [Row.d]
      rw [eqv_str, decide_eq_false (by decide +kernel)]
      walk_at "dl"
      refine rd_eqP okEq_ss ?_
      rw [eqv_str, decide_eq_true rfl]
      walk_at "dl"
      rw [isNo_fs]
      cases fs with
      | none =>
        walk_at "k"
        refine rd_inT (es := (["else", "end"] : List PySem.Str).map PyData.str) okIn_strs ?_
        rw [any_strs, decide_eq_true (by simp)]
        walk_at "dl"
        rw [ptAll_none hrun hr rfl]
      | some f =>
        cases hd with
        | none => exact absurd (wf.hf rfl) (by simp)
        | some h0 =>
          obtain ⟨a1, b1, w1⟩ := h0
          walk_at "k"
          refine sd_asg ?_
          walk_at "dl"
          refine rd_catT (by show 4 + 2 ≤ 1000000; decide) ?_
          walk_at "dl"
          refine rd_catL (by rw [List.length_map]; have : fo.length ≤ i := nf; simp only [List.length_cons, List.length_nil]; omega) ?_
          walk_at "dl"
          refine gd_tup rfl ?_
          refine gsd_cons (gd_name (gsd_cons (gd_name (gsd_cons (gd_name (gsd_cons (gd_name (gsd_nil ?_))))))))
          refine ⟨⟨fo ++ [.iff a1 b1 w1 f bo], none, none, []⟩, .dat (.str "end"), ?_, ptRun_step hrun hr rfl, ⟨fun h => (by cases h), by show (fo ++ _).length ≤ i + 1; rw [List.length_append]; have : fo.length ≤ i := nf; simp only [List.length_cons, List.length_nil]; omega, Nat.zero_le _⟩⟩
          show _ = rho9 _ _ _
          unfold rho9
          rw [List.map_append]
          rfl
    | hd a1 b1 w1 =>
      dsimp only [Row.d]
      rw [eqv_ts]
      walk_at "dl"
      refine rd_eqP ⟨rfl, rfl, by simp [PyData.depth]⟩ ?_
      rw [eqv_ts]
      walk_at "dl"
      refine rd_inT (es := (["else", "end"] : List PySem.Str).map PyData.str) (okIn_row (r := .hd a1 b1 w1) trivial) ?_
      simp only [List.map_cons, List.map_nil, List.any_cons, List.any_nil, eqv_st, Bool.or_false]
      walk_at "dl"
      refine rd_eqP okEq_ss ?_
      rw [eqv_str, decide_eq_true rfl]
      walk_at "dl"
      rw [isNo_hd]
      cases hd with
      | none =>
        walk_at "k"
        refine rd_eqP okEq_ss ?_
        rw [eqv_str, decide_eq_true rfl]
        walk_at "dl"
        have ef : fs = none := by
          cases fs with
          | none => rfl
          | some f => exact absurd (wf.hf rfl) (by simp)
        subst ef
        refine ⟨⟨fo, some (a1, b1, w1), none, []⟩, _, rfl, ptRun_step hrun hr rfl, ⟨fun _ => rfl, Nat.le_succ_of_le nf, Nat.zero_le _⟩⟩
      | some h0 =>
        walk_at "k"
        rw [ptAll_none hrun hr rfl]
    | pl p =>
      obtain ⟨wd, r⟩ := p
      have nif : ¬ wd = "if" := hrok.1
      dsimp only [Row.d, Pl.d]
      rw [eqv_ts]
      walk_at "dl"
      refine rd_eqP (okEq_row (r := .pl (wd, r)) hrok) ?_
      rw [eqv_ts]
      walk_at "dl"
      refine rd_inT (es := (["else", "end"] : List PySem.Str).map PyData.str) (okIn_row (r := .pl (wd, r)) hrok) ?_
      simp only [List.map_cons, List.map_nil, List.any_cons, List.any_nil, eqv_st, Bool.or_false]
      walk_at "dl"
      refine rd_eqP okEq_ss ?_
      rw [eqv_str, decide_eq_false nif]
      walk_at "dl"
      refine rd_eqP okEq_ss ?_
      rw [eqv_str, decide_eq_false nif]
      walk_at "dl"
      rw [isNo_hd]
      cases hd with
      | none =>
        walk_at "k"
        refine rd_catL (by rw [List.length_map]; have : fo.length ≤ i := nf; simp only [List.length_cons, List.length_nil]; omega) ?_
        walk_at "dl"
        refine ⟨⟨fo ++ [.pl (wd, r)], none, fs, bo⟩, .dat (Pl.d (wd, r)), ?_, ptRun_step hrun hr rfl, ⟨wf.hf, by show (fo ++ _).length ≤ i + 1; rw [List.length_append]; have : fo.length ≤ i := nf; simp only [List.length_cons, List.length_nil]; omega, Nat.le_succ_of_le nb⟩⟩
        show _ = rho9 _ _ _
        unfold rho9
        rw [List.map_append]
        rfl
      | some h0 =>
        walk_at "k"
        refine rd_catL (by rw [List.length_map]; have : bo.length ≤ i := nb; simp only [List.length_cons, List.length_nil]; omega) ?_
        walk_at "dl"
        refine ⟨⟨fo, some h0, fs, bo ++ [(wd, r)]⟩, .dat (Pl.d (wd, r)), ?_, ptRun_step hrun hr rfl, ⟨fun _ => rfl, Nat.le_succ_of_le nf, by show (bo ++ _).length ≤ i + 1; rw [List.length_append]; have : bo.length ≤ i := nb; simp only [List.length_cons, List.length_nil]; omega⟩⟩
        show _ = rho9 _ _ _
        unfold rho9
        rw [List.map_append]
        rfl
  · obtain ⟨s, e, rfl, hrun, wf⟩ := hI
    rw [List.length_map, List.take_length] at hrun
    walk_at "dl"
    rw [isNo_hd]
    have hall : ptAll x = match s.head with
      | none => some s.found
      | some _ => none := by unfold ptAll; rw [hrun]
    rw [hall]
    cases s.head with
    | none =>
      refine ⟨fun z => (by cases z), fun _ => ?_⟩
      walk_at "dl"
      rfl
    | some h =>
      refine ⟨fun _ => ?_, fun z => (by cases z)⟩
      walk_at "dl"
      rfl
end CL
set_option Elab.async false
set_option linter.all false
set_option maxRecDepth 100000
set_option maxHeartbeats 2000000
namespace CL
open PySem L2 DL
local macro_rules | `(tactic| walk_at "dl1") => `(tactic| first
  | ((with_reducible refine' ed_var ?hv ?_); (case hv => exact rfl))
  | with_reducible refine ed_int ?_
  | with_reducible refine ed_str ?_
  | with_reducible refine ed_bl ?_
  | with_reducible refine ed_non ?_
  | with_reducible refine ed_op ?_
  | with_reducible refine ea_cons ?_
  | with_reducible refine ea_nil ?_
  | with_reducible refine ed_isi ?_
  | with_reducible refine ed_cb ?_
  | with_reducible refine ed_call ?_
  | with_reducible refine ed_tup ?_
  | with_reducible refine ed_lst ?_
  | with_reducible refine ed_andV ?_
  | with_reducible refine ed_orV ?_
  | with_reducible refine ed_notV ?_
  | with_reducible refine ed_chain ?_
  | with_reducible refine ed_if ?_
  | with_reducible refine ed_un ?_
  | with_reducible refine ed_sl ?_
  | with_reducible refine ed_revL ?_
  | with_reducible refine ed_m1 ?_
  | with_reducible refine eo_no ?_
  | with_reducible refine eo_some ?_
  | with_reducible refine et_test ?_
  | with_reducible refine et_B ?_
  | with_reducible refine et_and ?_
  | with_reducible refine et_or ?_
  | with_reducible refine et_not ?_
  | with_reducible refine et_yes ?_
  | with_reducible refine sd_seq ?_
  | with_reducible refine sd_next ?_
  | with_reducible refine sd_set ?_
  | with_reducible refine sd_ret ?_
  | with_reducible refine sd_drop ?_
  | with_reducible refine sd_if ?_
  | with_reducible refine sd_par ?_
  | with_reducible refine sd_par3 ?_
  | with_reducible refine rd_addI ?_
  | with_reducible refine rd_subI ?_
  | with_reducible refine rd_ltI ?_
  | with_reducible refine rd_leI ?_
  | with_reducible refine rd_gtI ?_
  | with_reducible refine rd_geI ?_
  | with_reducible refine rd_isNo ?_
  | with_reducible refine rd_notNo ?_
  | with_reducible refine cd_lenL ?_
  | with_reducible refine cd_lenT ?_
  | with_reducible refine cd_abs ?_
  | with_reducible refine cd_intI ?_
  | with_reducible refine cd_intB ?_
  | with_reducible refine cd_strS ?_
  | with_reducible refine cd_listT ?_
  | with_reducible refine cd_tupleL ?_
  | with_reducible refine sd_L ?_
  | with_reducible refine sd_T ?_
  | with_reducible refine gd_name ?_
  | ((with_reducible refine' ed_lcL1y ?hv ?_); (case hv => exact rfl))
  | ((with_reducible refine' ed_lcT1y ?hv ?_); (case hv => exact rfl))
  | ((with_reducible refine' ed_lcL1 ?hv ?_); (case hv => exact rfl))
  | ((with_reducible refine' ed_lcT1 ?hv ?_); (case hv => exact rfl))
  | with_reducible refine exB ?_
  | with_reducible refine exI ?_
  | with_reducible refine exS ?_
  | with_reducible refine exL ?_
  | with_reducible refine exT ?_
  | with_reducible refine exLs ?_
  | with_reducible refine exIs ?_
  | with_reducible refine ex2 ?_
  | with_reducible refine ex3 ?_
  | with_reducible refine ln0 ?_
  | with_reducible refine ln1 ?_
  | with_reducible refine ln2 ?_
  | with_reducible refine ln3 ?_
  | with_reducible refine ln4 ?_
  | with_reducible refine ln5 ?_
  | with_reducible refine ln6 ?_
  | with_reducible refine ln7 ?_
  | with_reducible refine ln8 ?_
  | with_reducible refine ln9 ?_
  | with_reducible refine ln10 ?_
  | with_reducible refine ln11 ?_
  | with_reducible refine ln12 ?_
  | with_reducible refine cTT ?_
  | with_reducible refine cFT ?_
  | with_reducible refine cTF ?_
  | with_reducible refine cFF ?_
  | with_reducible refine nTT ?_
  | with_reducible refine nFT ?_
  | with_reducible refine nTF ?_
  | with_reducible refine nFF ?_
  | refine rd_ixT0 ?_
  | refine rd_ixL0 ?_
  | refine rd_ixT rfl ?_
  | refine rd_ixL rfl ?_)
local macro_rules | `(tactic| walk_at "dl") => `(tactic| repeat (walk_at "dl1"))
local macro_rules | `(tactic| walk_at "call1") => `(tactic| ((refine ⟨_, rfl, ?hcd, fun r hr => ?hcr⟩); (case hcd => first | assumption | rfl); (case hcr => (subst hr; try walk_at "dl"))))
local macro_rules | `(tactic| walk_at "and") => `(tactic| (refine ed_andE ?_; try walk_at "dl"))
local macro_rules | `(tactic| walk_at "k") => `(tactic| ((first | refine ct rfl ?_ | refine cf rfl ?_ | refine ct' rfl ?_ | refine cf' rfl ?_); try walk_at "dl"))
/-! ### promises of defs that may raise InvalidText -/
section
variable {α : Type} (K : PySem.W.Frag) (C : Addr) (enc : α → List PyData) (dom : α → Prop) (post : α → PyData → Prop) (rz : α → Int → Prop)
def spR : Sp := fun vs H Q E => ∃ (vol : Addr → Prop) (x : α), (∀ a, vol a → H a ≠ none) ∧ DtAll K vol H vs (enc x) ∧ dom x ∧ (∀ v H' d, Same H H' → Dt K vol H' v d → post x d → Q v H') ∧
  (∀ d H' n, Same H H' → H d = none → H' d = some (.xd [(("line" : PySem.Str), .int n)]) → rz x n → E (.ref C) (some d) H')
variable {K} {C} {enc} {dom} {post} {rz}
theorem run_exc {N : List PySem.Str} {vs : List V} {H : Hp} {Q : VK} {E : XK} {t : TS} (h : spR K C enc dom post rz vs H Q E)
    (body : ∀ (M : Md) x, dom x → StD M K (fun d H' => E (.ref C) (some d) H') t (rho0 N (enc x)) { nx := fun _ => post x .none, rt := post x, rz := rz x }) :
    t { nx := fun _ H' => Q .non H', rt := Q } (L2.start N vs) H := by
  obtain ⟨vol, x, hv, a, hd, q, qz⟩ := h
  refine body (pureM vol) x hd _ _ H ?_ hv ⟨fun σ' H' ρ' r _ z => q .non H' .none r .non z, fun v H' d r dv z => q v H' d r dv z, fun _ _ _ _ _ z => z.elim, fun _ _ _ _ _ z => z.elim, fun d H' n r h0 h1 z => qz d H' n r h0 h1 z⟩
  unfold L2.start rho0
  rw [a.length]
  exact env_vals (env_rep _) a
variable {M : Md} {ρ : Rho} {ta : TA} {D : EndD} {Ez : Addr → Hp → Prop}
theorem sd_raise {W : WX} (hW : ∀ d σ H, Ez d H → W (.ref C) (some d) σ H) (h : EvA M K ta ρ fun ds => ∃ n, ds = [.int n] ∧ D.rz n) : StD M K Ez (fun _ σ H => tMkErr C ta σ H fun cls d H' => W cls d σ H') ρ D :=
  fun Ds σ H e i p => h σ H e i _ fun vs H1 ds r dv q => by
    obtain ⟨n, rfl, hz⟩ := q
    cases dv with
    | cons d1 d2 =>
      cases d2; cases d1
      exact ⟨.int n, rfl, fun d hd => hW _ _ _ (p.rz d _ n (M.trans r (M.new hd)) (back_none i r hd) upd_same hz)⟩
theorem sd_retR {E : XK} (hE : ∀ d H, Ez d H → E (.ref C) (some d) H) (h : EvA M K ta ρ fun ds => ∃ x, ds = enc x ∧ dom x ∧ (∀ d, post x d → D.rt d) ∧ (∀ n, rz x n → D.rz n)) : StD M K Ez (tRet (tCall (spR K C enc dom post rz) [] E ta)) ρ D :=
  fun Ds σ H e i p => h σ H e i _ fun vs H1 ds r dv q => by
    obtain ⟨x, rfl, hd, hp, hz⟩ := q
    refine ⟨M.vol, x, fun a v => M.volN (M.invR i r) v, by rw [List.append_nil]; exact dv, hd, fun v H' d s dv' z => p.rt v H' d (M.trans r (M.same s)) dv' (hp d z), fun d H' n s h0 h1 z => hE _ _ (p.rz d H' n (M.trans r (M.same s)) (back_none i r h0) h1 (hz n z))⟩
end
/-! ### reading a text -/
def rowOf (n : Int) (l : PySem.Str) : Option Row := if l = "else" then some .els else if l = "end" then some .en else stepR n l
def textLines (s : PySem.Str) : List PySem.Str := if s = "" then [] else Txt.split s "\n"
def rdRows (n : Int) (len : Nat) (rows : List Row) : Except Int (List Stp) := match ptAll rows with
  | some ss => if scriptOk ss = true then .ok ss else .error (len + 1)
  | none => .error (len + 1)
def rdLines (n : Int) (ls : List PySem.Str) : Except Int (List Stp) := match ls.findIdx? (fun l => (rowOf n l).isNone) with
  | some i => .error (i + 1)
  | none => rdRows n ls.length (ls.filterMap (rowOf n))
def rdText (n : Int) : PyData → Except Int (List Stp)
  | .str s => rdLines n (textLines s)
  | _ => .error 0
def okP : Except Int (List Stp) → PyData → Prop
  | .ok ss, r => r = .tuple (ss.map Stp.d)
  | .error _, _ => False
def errP : Except Int (List Stp) → Int → Prop
  | .ok _, _ => False
  | .error n, k => k = n
def strMax (d : PyData) : Prop := noDict d = true ∧ ∀ s, d = .str s → s.length ≤ 50000
abbrev spScriptRead (K : PySem.W.Frag) (C : Addr) : Sp := spR K C (fun x : (List PyData × List PyData) × PyData => [wD x.1, x.2]) (fun x => strMax x.2) (fun x r => okP (rdText x.1.1.length x.2) r) (fun x k => errP (rdText x.1.1.length x.2) k)
def Row.good (n : Int) : Row → Prop
  | .pl p => GoodPl n p
  | .hd a b w => a ∈ NMS ∧ b ∈ NMS ∧ w ∈ SEENS
  | _ => True
theorem Row.good.ok {n : Int} {r : Row} (h : r.good n) : r.ok := by
  cases r with
  | els => trivial
  | en => trivial
  | hd => trivial
  | pl p => exact ⟨h.noif, h.flat⟩
theorem stepW_good {n : Int} : ∀ {ws : List PySem.Str} {r : Row}, stepW n ws = some r → r.good n
  | [], r, h => by cases h
  | w :: ws, r, h => by
    by_cases hw : w = "if"
    · rcases ws with _ | ⟨a, _ | ⟨b, _ | ⟨c, _ | ⟨d, t⟩⟩⟩⟩ <;> simp only [stepW, if_pos hw] at h
      · cases h
      · cases h
      · cases h
      · split at h
        · rename_i g
          cases h
          exact g
        · cases h
      · cases h
    · have h' : (match intOf w with
        | .str u => if step0 n (.str u :: ws.map intOf) = true then some (Row.pl (u, ws.map intOf)) else none
        | _ => none) = some r := by
        have e : stepW n (w :: ws) = _ := if_neg hw
        exact e.symm.trans h
      split at h'
      · rename_i u hu
        split at h'
        · rename_i g
          cases h'
          have g' : (if u = "if" then false else plainD n u (ws.map intOf)) = true := g
          split at g'
          · cases g'
          · rename_i nif
            exact ⟨fun x hx => by
              obtain ⟨s, _, rfl⟩ := List.mem_map.mp hx
              exact intOf_flat s, nif, g'⟩
        · cases h'
      · cases h'
theorem rowOf_good {n : Int} {l : PySem.Str} {r : Row} (h : rowOf n l = some r) : r.good n := by
  unfold rowOf at h
  split at h
  · cases h; trivial
  · split at h
    · cases h; trivial
    · exact stepW_good h
theorem rows_good {n : Int} {ls : List PySem.Str} : ∀ r ∈ ls.filterMap (rowOf n), r.good n := fun r hr => by
  obtain ⟨l, _, h⟩ := List.mem_filterMap.mp hr
  exact rowOf_good h
/-- how much put_together holds -/
def PT.m (s : PT) : Nat := (allD s.found).length + (if s.head.isSome then 1 else 0) + (s.first.getD []).length + s.body.length
structure PT.G (n : Int) (s : PT) (i : Nat) : Prop where
  m : s.m ≤ i
  found : ∀ x ∈ s.found, GoodSt n x
  head : ∀ a b w, s.head = some (a, b, w) → a ∈ NMS ∧ b ∈ NMS ∧ w ∈ SEENS
  first : ∀ f, s.first = some f → ∀ x ∈ f, GoodPl n x
  body : ∀ x ∈ s.body, GoodPl n x
theorem allD_app (a b : List Stp) : allD (a ++ b) = allD a ++ allD b := List.flatMap_append
theorem allD_one (s : Stp) : (allD [s]).length = 1 + s.subs.length := by
  show ([s].flatMap Stp.all).length = _
  rw [List.flatMap_cons, List.flatMap_nil, List.append_nil]
  show (s.d :: s.subs.map Pl.d).length = _
  rw [List.length_cons, List.length_map]
  omega
theorem ptStep_G {n : Int} {s t : PT} {r : Row} {i : Nat} (hi : i ≤ 1000000) (g : s.G n i) (hr : r.good n) (h : ptStep s r = some t) : t.G n (i + 1) := by
  obtain ⟨fo, hd, fs, bo⟩ := s
  obtain ⟨gm, g1, g2, g3, g4⟩ := g
  dsimp only [PT.m] at gm g1 g2 g3 g4
  cases r with
  | els =>
    cases hd <;> cases fs <;> simp only [ptStep] at h <;> cases h
    refine ⟨?_, g1, g2, fun f hf => (by cases hf; exact g4), fun x hx => (by cases hx)⟩
    simp only [PT.m, Option.getD_none, Option.getD_some, List.length_nil, Option.isSome] at gm ⊢
    omega
  | en =>
    cases hd with
    | none => cases fs <;> simp only [ptStep] at h <;> cases h
    | some x =>
      obtain ⟨a, b, w⟩ := x
      cases fs <;> simp only [ptStep] at h <;> cases h
      rename_i f
      have gm' : (allD fo).length + 1 + f.length + bo.length ≤ i := gm
      obtain ⟨ha, hb, hw⟩ := g2 a b w rfl
      refine ⟨?_, fun x hx => ?_, fun _ _ _ z => (by cases z), fun _ z => (by cases z), fun _ z => (by cases z)⟩
      · show (allD (fo ++ [Stp.iff a b w f bo])).length + 0 + 0 + 0 ≤ i + 1
        rw [allD_app, List.length_append, allD_one]
        show (allD fo).length + (1 + (f ++ bo).length) + 0 + 0 + 0 ≤ i + 1
        rw [List.length_append]
        omega
      · rcases List.mem_append.mp hx with hx | hx
        · exact g1 x hx
        · obtain rfl := List.mem_singleton.mp hx
          exact ⟨ha, hb, hw, ⟨by omega, g3 f rfl⟩, ⟨by omega, g4⟩⟩
  | hd a b w =>
    cases hd <;> simp only [ptStep] at h <;> cases h
    refine ⟨?_, g1, fun a b w z => (by cases z; exact hr), g3, fun _ z => (by cases z)⟩
    show (allD fo).length + 1 + (fs.getD []).length + 0 ≤ i + 1
    have gm' : (allD fo).length + 0 + (fs.getD []).length + bo.length ≤ i := gm
    omega
  | pl p =>
    cases hd with
    | none =>
      simp only [ptStep] at h
      cases h
      refine ⟨?_, fun x hx => ?_, g2, g3, g4⟩
      · show (allD (fo ++ [Stp.pl p])).length + 0 + (fs.getD []).length + bo.length ≤ i + 1
        have gm' : (allD fo).length + 0 + (fs.getD []).length + bo.length ≤ i := gm
        rw [allD_app, List.length_append, allD_one]
        show (allD fo).length + (1 + 0) + 0 + (fs.getD []).length + bo.length ≤ i + 1
        omega
      · rcases List.mem_append.mp hx with hx | hx
        · exact g1 x hx
        · obtain rfl := List.mem_singleton.mp hx
          exact hr
    | some x =>
      simp only [ptStep] at h
      cases h
      refine ⟨?_, g1, g2, g3, fun x hx => ?_⟩
      · show (allD fo).length + 1 + (fs.getD []).length + (bo ++ [p]).length ≤ i + 1
        have gm' : (allD fo).length + 1 + (fs.getD []).length + bo.length ≤ i := gm
        rw [List.length_append, List.length_singleton]
        omega
      · rcases List.mem_append.mp hx with hx | hx
        · exact g4 x hx
        · obtain rfl := List.mem_singleton.mp hx
          exact hr
theorem ptRun_G {n : Int} : ∀ (rows : List Row) {s t : PT} {i : Nat}, i + rows.length ≤ 1000000 → s.G n i → (∀ r ∈ rows, r.good n) → ptRun s rows = some t → t.G n (i + rows.length)
  | [], s, t, i, _, g, _, h => by cases h; exact g
  | r :: rs, s, t, i, hi, g, hr, h => by
    unfold ptRun at h
    cases hs : ptStep s r with
    | none => rw [hs] at h; cases h
    | some u =>
      rw [hs] at h
      rw [List.length_cons] at hi ⊢
      have := ptRun_G rs (i := i + 1) (by omega) (ptStep_G (by omega) g (hr r (by simp)) hs) (fun x hx => hr x (by simp [hx])) h
      have e : i + 1 + rs.length = i + (rs.length + 1) := by omega
      rw [← e]
      exact this
theorem ptAll_good {n : Int} {rows : List Row} {ss : List Stp} (hl : rows.length ≤ 1000000) (hr : ∀ r ∈ rows, r.good n) (h : ptAll rows = some ss) : (allD ss).length ≤ rows.length ∧ ∀ x ∈ ss, GoodSt n x := by
  unfold ptAll at h
  split at h
  · rename_i s hs
    have g := ptRun_G rows (i := 0) (by omega) (⟨Nat.le_refl _, fun _ z => (by cases z), fun _ _ _ z => (by cases z), fun _ z => (by cases z), fun _ z => (by cases z)⟩ : PT.G n ⟨[], none, none, []⟩ 0) hr hs
    split at h
    · cases h
      refine ⟨?_, g.found⟩
      have := g.m
      unfold PT.m at this
      omega
    · cases h
  · cases h
theorem findIdx_at {α : Type} {p : α → Bool} {l : List α} {i : Nat} {x : α} (hx : l[i]? = some x) (hp : p x = true) (hn : ∀ k y, k < i → l[k]? = some y → p y = false) : l.findIdx? p = some i := by
  obtain ⟨hi, hg⟩ := List.getElem?_eq_some_iff.mp hx
  rw [List.findIdx?_eq_some_iff_getElem]
  refine ⟨hi, by rw [hg]; exact hp, fun j hj => ?_⟩
  have := hn j _ hj (List.getElem?_eq_getElem (by omega))
  rw [this]
  exact Bool.false_ne_true
theorem findIdx_no {α : Type} {p : α → Bool} {l : List α} (hn : ∀ k y, k < l.length → l[k]? = some y → p y = false) : l.findIdx? p = none := by
  rw [List.findIdx?_eq_none_iff]
  intro x hx
  obtain ⟨k, hk, rfl⟩ := List.mem_iff_getElem.mp hx
  exact hn k _ hk (List.getElem?_eq_getElem hk)
theorem spl0_mem (S : List Nat) : ∀ (n : Nat) (l : List Nat) (acc : List Nat), l.length ≤ n → ∀ p ∈ TL.spl S 0 acc l, p.length ≤ acc.length + l.length
  | _, [], acc, _, p, hp => by
    rw [TL.spl_nil] at hp
    rw [List.mem_singleton.mp hp]; simp
  | 0, c :: r, acc, h, p, hp => by simp at h
  | n + 1, c :: r, acc, h, p, hp => by
    have hr : r.length ≤ n := by simpa using h
    cases hc : TL.pre S (c :: r) with
    | true =>
      rw [TL.spl_hit hc, TL.spl_pass] at hp
      have h1 : (r.drop (S.length - 1)).length ≤ r.length := by rw [List.length_drop]; omega
      rcases List.mem_cons.mp hp with rfl | hp
      · omega
      · have h2 := spl0_mem S n (r.drop (S.length - 1)) [] (by omega) p hp
        simp only [List.length_cons, List.length_nil] at h2 ⊢
        omega
    | false =>
      rw [TL.spl_miss hc] at hp
      have h2 := spl0_mem S n r (acc ++ [c]) hr p hp
      rw [List.length_append] at h2
      simp only [List.length_cons, List.length_nil] at h2 ⊢
      omega
theorem split_mem {y : PySem.Str} (hy : TL.tl y ≠ []) (hk : y.cps.all (· < 256) = true) (x : PySem.Str) : ∀ p ∈ Txt.split x y, p.length ≤ x.length := fun p hp => by
  have e := TL.split_spl x y hy (TL.kind_ok hk)
  have h := spl0_mem (TL.tl y) _ (TL.tl x) [] (Nat.le_refl _) (TL.tl p) (by rw [← e]; exact List.mem_map_of_mem hp)
  rw [TL.len_tl, TL.len_tl]
  simpa using h
theorem nl_tl : TL.tl (PySem.Str.ofString "\n") = [10] := by decide +kernel
theorem nl_all : (PySem.Str.ofString "\n").cps.all (· < 256) = true := by decide +kernel
theorem ok_script_read {P : Program} {w : World} {K : PySem.W.Frag} {mg : PySem.Str → Option Value} {base : Heap} {a : Ads} {d : Fds} {C fI cc cda : Addr} (T : Txt K mg a d) (TE : PySem.TxE.ErrTxt P K mg C fI cc cda) : FnOk P w K mg base (L2.CX P w) 15 a.script_read d.script_read P_script_read (spScriptRead K C) := by
  have G_step_of := ok_step_of (P := P) (w := w) (base := base) T
  have G_put_together := ok_put_together (P := P) (w := w) (base := base) T
  have G_is_script_of := ok_is_script_of (P := P) (w := w) (base := base) T
  refine T.F_script_read.okX sc_script_read (fun vs H Q E h => ?_) (fun cdv A outer s H vs Q E hr h => ?_)
  · obtain ⟨vol, x, _, ha, _⟩ := h
    have e := ha.length
    rw [e]
    rfl
  refine ⟨_, (pss_cons (ps_if (pt_not (pt_val (pe_callB call_isi (by rfl) T.isinstance (by decide +kernel) (pa_cons (pv 1) (pa_cons (pe_bltn (v := .ty "str") (by rfl) T.str (by decide +kernel) rfl) pa_nil))))) (pss_one (ps_raise rfl (takes_of rfl rfl rfl rfl) (pmk_err TE hr (pa_cons pe_int pa_nil)))) pss_nil) (pss_cons (ps_par rfl sc_script_read.nd (i := 2) (j := 3) rfl rfl (by decide) rfl rfl (pa_cons (pe_ifExp (pt_cmpR (oNeP hr.units) (pv 1) pe_str rfl) (pe_m1 F.slot_str_split F.type_str_split mSplit (pv 1) pe_str) (pe_lst pa_nil)) (pa_cons (pe_lst pa_nil) pa_nil)) rfl) (pss_cons (ps_for (passes_of rfl) rfl (pi_enum rfl T.enumerate (pa_cons (pv 2) pa_nil)) (pg_tup rfl (pgs_cons (pg_name (i := 4) sc_script_read.nd rfl (Or.inl rfl)) (pgs_cons (pg_name (i := 5) sc_script_read.nd rfl (Or.inl rfl)) pgs_nil))) (pss_cons (ps_set (i := 6) sc_script_read.nd rfl (Or.inl rfl) (pe_ifExp (pt_cmpR (oInP hr.units) (pv 5) (pe_tup (pa_cons (pe_globS T.c_ELSE rfl) (pa_cons (pe_globS T.c_END rfl) pa_nil))) rfl) (pv 5) (pe_call G_step_of (hr.mono (by decide)) rfl T.g_step_of T.k_step_of T.b_step_of .nil pass0 (pa_cons (pv 0) (pa_cons (pv 5) pa_nil))))) (pss_cons (ps_if (pt_cmpR oIsNo (pv 6) pe_non rfl) (pss_one (ps_raise rfl (takes_of rfl rfl rfl rfl) (pmk_err TE hr (pa_cons (pe_op oAddI (pv 4) pe_int) pa_nil)))) pss_nil) (pss_one (ps_set (i := 3) sc_script_read.nd rfl (Or.inl rfl) (pe_op oCatL (pv 3) (pe_lst (pa_cons (pv 6) pa_nil)))))))) (pss_cons (ps_set (i := 7) sc_script_read.nd rfl (Or.inl rfl) (pe_call G_put_together (hr.mono (by decide)) rfl T.g_put_together T.k_put_together T.b_put_together .nil pass0 (pa_cons (pv 3) pa_nil))) (pss_cons (ps_if (PW.pt (pw_or (pt_cmpR oIsNo (pv 7) pe_non rfl) (pw_or1 (pt_not (pt_val (pe_call G_is_script_of (hr.mono (by decide)) rfl T.g_is_script_of T.k_is_script_of T.b_is_script_of .nil pass0 (pa_cons (pv 0) (pa_cons (pv 7) pa_nil)))))))) (pss_one (ps_raise rfl (takes_of rfl rfl rfl rfl) (pmk_err TE hr (pa_cons (pe_op oAddI (pe_callB cLen (by rfl) T.len (by decide +kernel) (pa_cons (pv 2) pa_nil)) pe_int) pa_nil)))) pss_nil) (pss_one (ps_ret (pv 7)))))))), run_exc h (fun M x hx => ?_)⟩
  try dsimp only [cxOf]
  obtain ⟨⟨ts, rest⟩, v⟩ := x
  dsimp only at hx ⊢
  by_cases hstr : ∃ t, v = .str t
  · obtain ⟨t, rfl⟩ := hstr
    have ht : t.length ≤ 50000 := hx.2 t rfl
    have hrd : rdText ts.length (.str t) = rdLines ts.length (textLines t) := rfl
    rw [hrd]
    have hlen : (textLines t).length ≤ 50001 := by
      unfold textLines
      split
      · exact Nat.zero_le _
      · have := split_lenY (y := "\n") (by rw [nl_tl]; simp) nl_all t
        omega
    have hall : ∀ l ∈ textLines t, l.length ≤ 500000 := by
      unfold textLines
      split
      · intro l hl; cases hl
      · intro l hl
        have := split_mem (y := "\n") (by rw [nl_tl]; simp) nl_all t l hl
        omega
    walk_at "dl"
    refine ⟨_, kit_str rfl, ?_⟩
    refine exB (cf rfl ?_)
    refine sd_next ?_
    refine sd_seq ?_
    refine sd_par ?_
    refine ea_cons ?_
    refine EvD.mono (Φ := fun d => d = .list ((textLines t).map PyData.str)) ?_ (fun d hd => ?_)
    · walk_at "dl"
      refine rd_neP okEq_ss ?_
      rw [eqv_str]
      refine exB ⟨fun hc => ?_, fun hc => ?_⟩
      · have h0 : ¬ t = "" := by simpa using hc
        walk_at "dl"
        refine md_split (by decide +kernel) (by omega) ?_
        unfold textLines
        rw [if_neg h0]
      · have h0 : t = "" := by simpa using hc
        walk_at "dl"
        unfold textLines
        rw [if_pos h0]
        rfl
    subst hd
    generalize textLines t = ls at hlen hall ⊢
    walk_at "dl"
    refine sd_forE ?_
    walk_at "dl"
    refine ⟨fun i ρ' => ∃ e4 e5 e6, ρ' = [.dat (wD (ts, rest)), .dat (.str t), .dat (.list (ls.map PyData.str)), .dat (.list (((ls.take i).filterMap (rowOf ts.length)).map Row.d)), e4, e5, e6, .no] ∧ ∀ k l, k < i → ls[k]? = some l → (rowOf ts.length l).isSome = true, ⟨_, _, _, rfl, fun k l hk => absurd hk (Nat.not_lt_zero _)⟩, fun i y ρ' hi hI => ?_, fun ρ' hI => ?_⟩
    · obtain ⟨e4, e5, e6, rfl, hgood⟩ := hI
      obtain ⟨l, hl, rfl⟩ := getElem_map hi
      have hil : i < ls.length := (List.getElem?_eq_some_iff.mp hl).1
      refine gd_tup rfl (gsd_cons (gd_name (gsd_cons (gd_name (gsd_nil ?_)))))
      refine sd_seq ?_
      refine sd_set ?_
      refine EvD.mono (Φ := fun d => d = Row.od (rowOf ts.length l)) ?_ (fun d hd => ?_)
      · walk_at "dl"
        refine rd_inT (es := (["else", "end"] : List PySem.Str).map PyData.str) okIn_strs ?_
        rw [any_strs]
        refine exB ⟨fun hc => ?_, fun hc => ?_⟩
        · have h0 : l = "else" ∨ l = "end" := by simpa using of_decide_eq_true hc
          walk_at "dl"
          unfold rowOf
          by_cases h1 : l = "else"
          · rw [if_pos h1, h1]; rfl
          · have h2 := h0.resolve_left h1
            rw [if_neg h1, if_pos h2, h2]; rfl
        · have h0 : ¬ (l = "else" ∨ l = "end") := by simpa using of_decide_eq_false hc
          walk_at "dl"
          refine ⟨((ts, rest), l), rfl, hall l (List.mem_of_getElem? hl), fun r hr => ?_⟩
          rw [hr]
          unfold rowOf
          rw [if_neg (fun h => h0 (.inl h)), if_neg (fun h => h0 (.inr h))]
      subst hd
      walk_at "dl"
      cases hr : rowOf ts.length l with
      | none =>
        refine ct rfl ?_
        refine sd_raise (fun _ _ _ z => z) ?_
        walk_at "dl"
        show errP (rdLines ts.length ls) _
        have e : rdLines ts.length ls = .error (i + 1) := by
          unfold rdLines
          have : ls.findIdx? (fun l => (rowOf ts.length l).isNone) = some i := findIdx_at hl (by rw [hr]; rfl) fun k y hk hy => by
            have := hgood k y hk hy
            cases hz : rowOf ts.length y <;> rw [hz] at this
            · cases this
            · rfl
          rw [this]
        rw [e]
        rfl
      | some r =>
        have hno : isNo (Row.od (some r)) = false := by cases r <;> rfl
        refine cf hno ?_
        walk_at "dl"
        refine rd_catL (by
          rw [List.length_map]
          have := List.length_filterMap_le (rowOf ts.length) (ls.take i)
          rw [List.length_take] at this
          simp only [List.length_cons, List.length_nil]
          omega) ?_
        walk_at "dl"
        refine ⟨.dat (.int i), .dat (.str l), .dat (Row.od (some r)), ?_, fun k l2 hk hl2 => ?_⟩
        · rw [List.take_succ, hl, List.filterMap_append, List.map_append]
          simp only [Option.toList, List.filterMap_cons, hr, List.filterMap_nil, List.map_cons, List.map_nil]
          rfl
        · by_cases hki : k = i
          · subst hki
            rw [hl] at hl2
            cases hl2
            rw [hr]; rfl
          · exact hgood k l2 (by omega) hl2
    · obtain ⟨e4, e5, e6, rfl, hgood⟩ := hI
      have hg2 : ∀ k l, k < ls.length → ls[k]? = some l → (rowOf ts.length l).isSome = true := fun k l hk => hgood k l (by rw [List.length_map]; exact hk)
      have e : rdLines ts.length ls = rdRows ts.length ls.length (ls.filterMap (rowOf ts.length)) := by
        unfold rdLines
        have : ls.findIdx? (fun l => (rowOf ts.length l).isNone) = none := findIdx_no fun k y hk hy => by
          have := hg2 k y hk hy
          cases hz : rowOf ts.length y <;> rw [hz] at this
          · cases this
          · rfl
        rw [this]
      rw [List.length_map, List.take_length, e]
      have hrl := List.length_filterMap_le (rowOf ts.length) ls
      have hrg := rows_good (n := ts.length) (ls := ls)
      generalize ls.filterMap (rowOf ts.length) = rows at hrl hrg ⊢
      walk_at "dl"
      refine ⟨rows, rfl, ⟨fun r hr => (hrg r hr).ok, by omega⟩, fun q hq => ?_⟩; subst hq
      unfold rdRows
      cases hp : ptAll rows with
      | none =>
        walk_at "dl"
        refine cTF ?_
        refine ct rfl ?_
        refine sd_raise (fun _ _ _ z => z) ?_
        walk_at "dl"
        rw [List.length_map]
        rfl
      | some ss =>
        obtain ⟨g1, g2⟩ := ptAll_good (n := ts.length) (by omega) hrg hp
        walk_at "dl"
        refine ct' rfl ?_
        walk_at "dl"
        refine ⟨((ts, rest), ss), rfl, ⟨by show (allD ss).length ≤ _; omega, g2⟩, fun q hq => ?_⟩; subst hq
        walk_at "dl"
        cases ho : scriptOk ss with
        | true =>
          refine cf rfl ?_
          walk_at "dl"
          show okP (if scriptOk ss = true then .ok ss else .error (ls.length + 1)) _
          rw [if_pos ho]
          rfl
        | false =>
          refine ct rfl ?_
          refine sd_raise (fun _ _ _ z => z) ?_
          walk_at "dl"
          rw [List.length_map]
          show errP (if scriptOk ss = true then .ok ss else .error (ls.length + 1)) _
          rw [if_neg (by rw [ho]; exact Bool.false_ne_true)]
          rfl
  · have hrd : rdText ts.length v = .error 0 := by
      cases v <;> first | exact absurd ⟨_, rfl⟩ hstr | rfl
    rw [hrd]
    have hs : isStrD v = false := by
      cases v <;> first | exact absurd ⟨_, rfl⟩ hstr | rfl
    walk_at "dl"
    refine ⟨_, kit_str hx.1, ?_⟩
    rw [hs]
    walk_at "dl"
    refine sd_raise (fun _ _ _ z => z) ?_
    walk_at "dl"
    rfl
end CL
set_option Elab.async false
set_option linter.all false
set_option maxRecDepth 100000
set_option maxHeartbeats 2000000
namespace CL
open PySem L2 DL
local macro_rules | `(tactic| walk_at "dl1") => `(tactic| first
  | ((with_reducible refine' ed_var ?hv ?_); (case hv => exact rfl))
  | with_reducible refine ed_int ?_
  | with_reducible refine ed_str ?_
  | with_reducible refine ed_bl ?_
  | with_reducible refine ed_non ?_
  | with_reducible refine ed_op ?_
  | with_reducible refine ea_cons ?_
  | with_reducible refine ea_nil ?_
  | with_reducible refine ed_isi ?_
  | with_reducible refine ed_cb ?_
  | with_reducible refine ed_call ?_
  | with_reducible refine ed_tup ?_
  | with_reducible refine ed_lst ?_
  | with_reducible refine ed_andV ?_
  | with_reducible refine ed_orV ?_
  | with_reducible refine ed_notV ?_
  | with_reducible refine ed_chain ?_
  | with_reducible refine ed_if ?_
  | with_reducible refine ed_un ?_
  | with_reducible refine ed_sl ?_
  | with_reducible refine ed_revL ?_
  | with_reducible refine ed_m1 ?_
  | with_reducible refine eo_no ?_
  | with_reducible refine eo_some ?_
  | with_reducible refine et_test ?_
  | with_reducible refine et_B ?_
  | with_reducible refine et_and ?_
  | with_reducible refine et_or ?_
  | with_reducible refine et_not ?_
  | with_reducible refine et_yes ?_
  | with_reducible refine sd_seq ?_
  | with_reducible refine sd_next ?_
  | with_reducible refine sd_set ?_
  | with_reducible refine sd_ret ?_
  | with_reducible refine sd_drop ?_
  | with_reducible refine sd_if ?_
  | with_reducible refine sd_par ?_
  | with_reducible refine sd_par3 ?_
  | with_reducible refine rd_addI ?_
  | with_reducible refine rd_subI ?_
  | with_reducible refine rd_ltI ?_
  | with_reducible refine rd_leI ?_
  | with_reducible refine rd_gtI ?_
  | with_reducible refine rd_geI ?_
  | with_reducible refine rd_isNo ?_
  | with_reducible refine rd_notNo ?_
  | with_reducible refine cd_lenL ?_
  | with_reducible refine cd_lenT ?_
  | with_reducible refine cd_abs ?_
  | with_reducible refine cd_intI ?_
  | with_reducible refine cd_intB ?_
  | with_reducible refine cd_strS ?_
  | with_reducible refine cd_listT ?_
  | with_reducible refine cd_tupleL ?_
  | with_reducible refine sd_L ?_
  | with_reducible refine sd_T ?_
  | with_reducible refine gd_name ?_
  | ((with_reducible refine' ed_lcL1y ?hv ?_); (case hv => exact rfl))
  | ((with_reducible refine' ed_lcT1y ?hv ?_); (case hv => exact rfl))
  | ((with_reducible refine' ed_lcL1 ?hv ?_); (case hv => exact rfl))
  | ((with_reducible refine' ed_lcT1 ?hv ?_); (case hv => exact rfl))
  | with_reducible refine exB ?_
  | with_reducible refine exI ?_
  | with_reducible refine exS ?_
  | with_reducible refine exL ?_
  | with_reducible refine exT ?_
  | with_reducible refine exLs ?_
  | with_reducible refine exIs ?_
  | with_reducible refine ex2 ?_
  | with_reducible refine ex3 ?_
  | with_reducible refine ln0 ?_
  | with_reducible refine ln1 ?_
  | with_reducible refine ln2 ?_
  | with_reducible refine ln3 ?_
  | with_reducible refine ln4 ?_
  | with_reducible refine ln5 ?_
  | with_reducible refine ln6 ?_
  | with_reducible refine ln7 ?_
  | with_reducible refine ln8 ?_
  | with_reducible refine ln9 ?_
  | with_reducible refine ln10 ?_
  | with_reducible refine ln11 ?_
  | with_reducible refine ln12 ?_
  | with_reducible refine cTT ?_
  | with_reducible refine cFT ?_
  | with_reducible refine cTF ?_
  | with_reducible refine cFF ?_
  | with_reducible refine nTT ?_
  | with_reducible refine nFT ?_
  | with_reducible refine nTF ?_
  | with_reducible refine nFF ?_
  | refine rd_ixT0 ?_
  | refine rd_ixL0 ?_
  | refine rd_ixT rfl ?_
  | refine rd_ixL rfl ?_)
local macro_rules | `(tactic| walk_at "dl") => `(tactic| repeat (walk_at "dl1"))
local macro_rules | `(tactic| walk_at "call1") => `(tactic| ((refine ⟨_, rfl, ?hcd, fun r hr => ?hcr⟩); (case hcd => first | assumption | rfl); (case hcr => (subst hr; try walk_at "dl"))))
local macro_rules | `(tactic| walk_at "and") => `(tactic| (refine ed_andE ?_; try walk_at "dl"))
local macro_rules | `(tactic| walk_at "k") => `(tactic| ((first | refine ct rfl ?_ | refine cf rfl ?_ | refine ct' rfl ?_ | refine cf' rfl ?_); try walk_at "dl"))
/-! ### read_script, script_text, _law_read -/
theorem Wd.wd (W : Wd) : W.d = wD (W.tapes.map tp, [pr W.pencil, pr W.saw]) := rfl
theorem Wd.len (W : Wd) : (((W.tapes.map tp, [pr W.pencil, pr W.saw]) : List PyData × List PyData).1.length : Int) = W.tapes.length := by
  show ((W.tapes.map tp).length : Int) = _
  rw [List.length_map]
abbrev spReadScript (K : PySem.W.Frag) (C : Addr) : Sp := spR K C (fun x : Wd × PyData => [x.1.d, x.2]) (fun x => GoodWd x.1 ∧ strMax x.2) (fun x r => okP (rdText x.1.tapes.length x.2) r) (fun x k => errP (rdText x.1.tapes.length x.2) k)
theorem ok_read_script {P : Program} {w : World} {K : PySem.W.Frag} {mg : PySem.Str → Option Value} {base : Heap} {a : Ads} {d : Fds} {C fI cc cda : Addr} (T : Txt K mg a d) (TE : PySem.TxE.ErrTxt P K mg C fI cc cda) : FnOk P w K mg base (L2.CX P w) 16 a.read_script d.read_script P_read_script (spReadScript K C) := by
  have G_need_world := ok_need_world (P := P) (w := w) (base := base) T
  have G_script_read := ok_script_read (P := P) (w := w) (base := base) T TE
  refine T.F_read_script.okX sc_read_script (fun vs H Q E h => ?_) (fun cdv A outer s H vs Q E hr h => ?_)
  · obtain ⟨vol, x, _, ha, _⟩ := h
    have e := ha.length
    rw [e]
    rfl
  refine ⟨_, (pss_cons (ps_expr (pe_call G_need_world (hr.mono (by decide)) rfl T.g_need_world T.k_need_world T.b_need_world .nil pass0 (pa_cons (pv 0) pa_nil))) (pss_one (ps_ret (pe_call G_script_read (hr.mono (by decide)) rfl T.g_script_read T.k_script_read T.b_script_read .nil (passes_call (takes_of rfl rfl rfl rfl) (fun _ _ _ _ z => z)) (pa_cons (pv 0) (pa_cons (pv 1) pa_nil)))))), run_exc h (fun M x hx => ?_)⟩
  try dsimp only [cxOf]
  obtain ⟨W, v⟩ := x
  walk_at "dl"
  refine ⟨W, rfl, hx.1, fun q hq => ?_⟩
  refine sd_retR (fun _ _ z => z) ?_
  walk_at "dl"
  refine ⟨((W.tapes.map tp, [pr W.pencil, pr W.saw]), v), rfl, hx.2, fun r z => ?_, fun n z => ?_⟩
  · have z' := z
    rw [Wd.len] at z'
    exact z'
  · have z' := z
    rw [Wd.len] at z'
    exact z'
def resD : Except Int (List Stp) → PyData
  | .ok ss => .tuple (ss.map Stp.d)
  | .error n => .int n
abbrev spLawRead (K : PySem.W.Frag) : Sp := spP K (fun x : Wd × PyData => [x.1.d, x.2]) (fun x => GoodWd x.1 ∧ strMax x.2) (fun x r => r = resD (rdText x.1.tapes.length x.2))
theorem ok_law_read {P : Program} {w : World} {K : PySem.W.Frag} {mg : PySem.Str → Option Value} {base : Heap} {a : Ads} {d : Fds} {C fI cc cda : Addr} (T : Txt K mg a d) (TE : PySem.TxE.ErrTxt P K mg C fI cc cda) : FnOk P w K mg base CX0 17 a.law_read d.law_read P_law_read (spLawRead K) := by
  have G_read_script := ok_read_script (P := P) (w := w) (base := base) T TE
  refine T.F_law_read.ok sc_law_read (fun vs H Q E h => ?_) (fun cdv A outer s H vs Q E hr h => ?_)
  · obtain ⟨vol, x, _, ha, _⟩ := h
    have e := ha.length
    rw [e]
    rfl
  refine ⟨_, pss_one (ps_try_as (i := 2) (tb := fun W => tRet (tCallS (spReadScript K C) (WE W) (tCons (tVar 0) (tCons (tVar 1) tNil)))) (ts := fun a cls d => tRet (tLine C a cls d (tVar 2))) (Wout := fun _ _ _ _ => False) rfl rfl sc_law_read.nd rfl rfl ⟨rfl, by decide, Or.inl TE.gC⟩ takes0
    (fun W pn xe tk _ => pss_one (ps_ret (by exact (pe_callS G_read_script (hr.mono (by decide)) rfl T.g_read_script T.k_read_script T.b_read_script (fun σ => passAt tk σ) (by exact (pa_cons (pv 0) (pa_cons (pv 1) pa_nil)))))))
    (fun a oe cls d pn hz hf => pss_one (ps_ret (by exact (pe_line TE hz hf (pv 2)))))), ?_⟩
  obtain ⟨vol, ⟨W, x⟩, hv, ha, hd, q⟩ := h
  cases ha with
  | @cons v0 _ _ _ h0 ha =>
    cases ha with
    | @cons v1 _ _ _ h1 ha =>
      cases ha
      refine ⟨v0, rfl, v1, rfl, vol, (W, x), hv, .cons h0 (.cons h1 .nil), hd, fun v H' d s dv z => q v H' d s dv ?_, fun d H' n s hn hx z => ?_⟩
      · show d = resD (rdText W.tapes.length x)
        have z' : okP (rdText W.tapes.length x) d := z
        cases hr : rdText W.tapes.length x with
        | ok ss => rw [hr] at z'; exact z'
        | error k => rw [hr] at z'; exact z'.elim
      · refine ⟨true, TE.te, fun _ a0 _ => ?_, fun q => Bool.noConfusion q⟩
        refine ⟨.ref a0, rfl, rfl, rfl, d, _, rfl, hx, ?_⟩
        refine q (.int n) H' (.int n) s (.int n) ?_
        show PyData.int n = resD (rdText W.tapes.length x)
        have z' : errP (rdText W.tapes.length x) n := z
        cases hr : rdText W.tapes.length x with
        | ok ss => rw [hr] at z'; exact z'.elim
        | error k => rw [hr] at z'; rw [show n = k from z']; rfl
def textOf (ss : List Stp) : PySem.Str := Txt.join "\n" (linesAll ss)
structure GoodSs (n : Int) (ss : List Stp) : Prop where
  sz : (allD ss).length ≤ 100000
  good : ∀ s ∈ ss, GoodSt n s
  ok : scriptOk ss = true
  lok : ∀ s ∈ ss, s.lok
  ll : (linesAll ss).length ≤ 500000
  sum : ((linesAll ss).map (·.length)).sum + (linesAll ss).length * 1 ≤ 16777216
theorem nl_len : (PySem.Str.ofString "\n").length = 1 := by decide +kernel
abbrev spScriptText (K : PySem.W.Frag) : Sp := spP K (fun x : Wd × List Stp => [x.1.d, .tuple (x.2.map Stp.d)]) (fun x => GoodWd x.1 ∧ GoodSs x.1.tapes.length x.2) (fun x r => r = .str (textOf x.2))
theorem ok_script_text {P : Program} {w : World} {K : PySem.W.Frag} {mg : PySem.Str → Option Value} {base : Heap} {a : Ads} {d : Fds} (T : Txt K mg a d) : FnOk P w K mg base CX0 15 a.script_text d.script_text P_script_text (spScriptText K) := by
  have G_need_world := ok_need_world (P := P) (w := w) (base := base) T
  have G_need_script := ok_need_script (P := P) (w := w) (base := base) T
  have G_lines_of := ok_lines_of (P := P) (w := w) (base := base) T
  refine T.F_script_text.ok sc_script_text (fun vs H Q E h => ?_) (fun cdv A outer s H vs Q E hr h => ?_)
  · obtain ⟨vol, x, _, ha, _⟩ := h
    have e := ha.length
    rw [e]
    rfl
  refine ⟨_, (pss_cons (ps_expr (pe_call G_need_world (hr.mono (by decide)) rfl T.g_need_world T.k_need_world T.b_need_world .nil pass0 (pa_cons (pv 0) pa_nil))) (pss_cons (ps_expr (pe_call G_need_script (hr.mono (by decide)) rfl T.g_need_script T.k_need_script T.b_need_script .nil pass0 (pa_cons (pv 0) (pa_cons (pv 1) pa_nil)))) (pss_one (ps_ret (pe_m1 F.slot_str_join F.type_str_join mJoin pe_str (pe_call G_lines_of (hr.mono (by decide)) rfl T.g_lines_of T.k_lines_of T.b_lines_of .nil pass0 (pa_cons (pv 1) pa_nil))))))), run_pure h (fun M x hx => ?_)⟩
  try dsimp only [cxOf, List.map_cons, List.map_nil]
  obtain ⟨W, ss⟩ := x
  obtain ⟨hW, hs⟩ := hx
  walk_at "dl"
  refine ⟨W, rfl, hW, fun q hq => ?_⟩
  walk_at "dl"
  refine ⟨((W.tapes.map tp, [pr W.pencil, pr W.saw]), ss), rfl, ⟨⟨hs.sz, fun s hs' => ?_⟩, hs.ok⟩, fun q hq => ?_⟩
  · show GoodSt ((W.tapes.map tp).length : Int) s
    rw [List.length_map]
    exact hs.good s hs'
  walk_at "dl"
  refine ⟨ss, rfl, ⟨hs.lok, hs.ll⟩, fun q hq => ?_⟩; subst hq
  refine md_joinL ?_ rfl
  rw [nl_len]
  exact hs.sum
end CL
set_option Elab.async false
set_option linter.all false
set_option maxRecDepth 100000
set_option maxHeartbeats 2000000
namespace DL
open PySem L2
/-! ### dicts: made, filled by straight code, then only read -/
def rSetD : TSet := fun o i v H Q => ∃ a H', o = .ref a ∧ DPut H a i v H' ∧ Q H'
theorem set_dict {X : Cx} (hu : X.A.units + 1 < cLine) : PSet X rSetD := by
  intro pins s σ H o i v ov iv u Q I ro ri rv h
  obtain ⟨a, H', rfl, hp, q⟩ := h
  cases ro
  exact d_setItem hu I hp ri rv fun s' I' => ⟨H', I', q⟩
section
variable {M : Md} {K : PySem.W.Frag} {ρ : Rho} {Φ : PyData → Prop} {ty tx : TE}
theorem ed_dget {i : Nat} {f : Str → Option PyData} (hi : ρ[i]? = some (.dic f)) (h : EvD M K ty ρ fun d => ∃ s r, d = .str s ∧ f s = some r ∧ Φ r) : EvD M K (tDGet (tVar i) ty) ρ Φ := fun σ H e iv Q k => by
  obtain ⟨p, kvs, h1, h2, h3, h4⟩ := e.dic hi
  refine ⟨_, h1, h σ H e iv _ fun v H1 d r dv hd => ?_⟩
  obtain ⟨s, x, rfl, hf, q⟩ := hd
  cases dv
  have z := h4 s
  rw [hf] at z
  obtain ⟨v, z1, z2⟩ := z
  exact ⟨p, v, rfl, .inl ⟨kvs, .inr s, .inl (M.keep r h2 h3), rfl, z1.symm⟩, k v H1 x r (z2.on r) q⟩
theorem ed_dget2 {i : Nat} {f : Str → Option PyData} (hi : ρ[i]? = some (.dic f)) (h : EvD M K ty ρ fun d => ∃ s, d = .str s ∧ EvD M K tx ρ fun z => Φ ((f s).getD z)) : EvD M K (tDGet2 (tVar i) ty tx) ρ Φ := fun σ H e iv Q k => by
  obtain ⟨p, kvs, h1, h2, h3, h4⟩ := e.dic hi
  refine ⟨_, h1, p, rfl, .inl ⟨kvs, .inl h3⟩, h σ H e iv _ fun v H1 d r dv hd => ?_⟩
  obtain ⟨s, rfl, h5⟩ := hd
  cases dv
  refine h5 σ H1 (e.on r) (M.invR iv r) _ fun vz H2 z r2 dz q => ?_
  have r12 := M.trans r r2
  have w := h4 s
  cases hf : f s with
  | none =>
    rw [hf] at w q
    refine ⟨none, .inl ⟨kvs, .inr s, .inl (M.keep r12 h2 h3), rfl, w.symm⟩, k vz H2 z r12 dz q⟩
  | some x =>
    rw [hf] at w q
    obtain ⟨v, w1, w2⟩ := w
    exact ⟨some v, .inl ⟨kvs, .inr s, .inl (M.keep r12 h2 h3), rfl, w1.symm⟩, k v H2 x r12 (w2.on r12) q⟩
/-- the pairs of a display with texts as keys -/
def PsOk (K : PySem.W.Frag) (vol : Addr → Prop) (H : Hp) : List (V × V) → List (Str × PyData) → Prop := Paired fun p kd => p.1 = .str kd.1 ∧ Dt K vol H p.2 kd.2
theorem PsOk.on {H H' : Hp} (r : M.R H H') : ∀ {ps : List (V × V)} {l : List (Str × PyData)}, PsOk K M.vol H ps l → PsOk K M.vol H' ps l
  | _, _, .nil => .nil
  | _, _, .cons a b => .cons ⟨a.1, a.2.on r⟩ (PsOk.on r b)
def EvP (M : Md) (K : PySem.W.Frag) (trs : List (TE × TE)) (ρ : Rho) (Φ : List (Str × PyData) → Prop) : Prop := ∀ (σ : St) (H : Hp), Env K M.vol H σ ρ → M.inv H → ∀ Q : List (V × V) → Hp → Prop, (∀ ps H' l, M.R H H' → PsOk K M.vol H' ps l → Φ l → Q ps H') → tPairs trs σ H Q
theorem ep_nil {Φ : List (Str × PyData) → Prop} (q : Φ []) : EvP M K [] ρ Φ := fun σ H e i Q k => k [] H [] (M.refl H) .nil q
theorem ep_cons {Φ : List (Str × PyData) → Prop} {s : Str} {tv : TE} {trs : List (TE × TE)} (h : EvD M K tv ρ fun d => EvP M K trs ρ fun l => Φ ((s, d) :: l)) : EvP M K ((tC (.str s), tv) :: trs) ρ Φ := fun σ H e i Q k =>
  h σ H e i _ fun v H1 d r dv hd => hd σ H1 (e.on r) (M.invR i r) _ fun ps H2 l r2 hp q => k _ H2 _ (M.trans r r2) (.cons ⟨rfl, dv.on r2⟩ hp) q
def dicF (l : List (Str × PyData)) : Str → Option PyData := l.foldl (fun f kd => fun s => if s = kd.1 then some kd.2 else f s) fun _ => none
theorem DicOk.put {vol : Addr → Prop} {H : Hp} {kvs : List (Key × V)} {f : Str → Option PyData} {k : Str} {v : V} {d : PyData} (h : DicOk K vol H kvs f) (dv : Dt K vol H v d) : DicOk K vol H (putK kvs (.inr k) v) (fun s => if s = k then some d else f s) := fun s => by
  rw [valV_put]
  by_cases e : s = k
  · subst e
    simp only [if_pos]
    exact ⟨v, rfl, dv⟩
  · rw [if_neg (fun z => e (Sum.inr.inj z))]
    simp only [if_neg e]
    exact h s
theorem dic_merge {vol : Addr → Prop} {H : Hp} : ∀ {ps : List (V × V)} {l : List (Str × PyData)} {kvs : List (Key × V)} {f : Str → Option PyData}, PsOk K vol H ps l → DicOk K vol H kvs f →
    ∃ more : List (Key × V), ps = more.map (fun kv => (kV kv.1, kv.2)) ∧ more.length = l.length ∧ DicOk K vol H (mergeK kvs more) (l.foldl (fun f kd => fun s => if s = kd.1 then some kd.2 else f s) f)
  | _, _, kvs, f, .nil, h => ⟨[], rfl, rfl, h⟩
  | p :: ps, kd :: l, kvs, f, .cons a b, h => by
    obtain ⟨p1, p2⟩ := p
    obtain ⟨a1, a2⟩ := a
    dsimp only at a1 a2
    subst a1
    obtain ⟨more, e1, e2, e3⟩ := dic_merge b (h.put (k := kd.1) a2)
    exact ⟨(.inr kd.1, p2) :: more, by rw [e1]; rfl, by simp [e2], e3⟩
end
theorem dic_nil {K : PySem.W.Frag} {vol : Addr → Prop} {H : Hp} : DicOk K vol H [] (fun _ => none) := fun s => rfl
/-- statements while the dict in slot i is being filled -/
def StB (M : Md) (K : PySem.W.Frag) (Ez : Addr → Hp → Prop) (i : Nat) (t : TS) (ρ : Rho) (c : Nat) (f : Str → Option PyData) (D : EndD) : Prop := ∀ (H0 : Hp) (p : Addr) (Ds : Ends) (σ : St) (H : Hp) (kvs : List (Key × V)), H0 p = none → M.inv H0 → M.R H0 H → σ[i]? = some (some (.ref p)) →
  H p = some (.dK kvs) → kvs.length ≤ c → DicOk K (M.add p).vol H kvs f → Env K (M.add p).vol H σ ρ → Post M K Ez Ds D H0 → t Ds σ H
section
variable {M : Md} {K : PySem.W.Frag} {Ez : Addr → Hp → Prop} {ρ : Rho} {t rest : TS} {te : TE} {ta : TA} {D : EndD} {f : Str → Option PyData} {i c : Nat}
theorem invAdd {H0 H : Hp} {p : Addr} (hi : M.inv H0) (r : M.R H0 H) (hp : H p ≠ none) : (M.add p).inv H := ⟨M.invR hi r, hp⟩
theorem sb_start {trs : List (TE × TE)} (hi : i < ρ.length) (h : ∀ M' : Md, EvP M' K trs ρ fun l => l.length ≤ 15 ∧ StB M K Ez i rest (ρ.set i .no) 15 (dicF l) D) : StD M K Ez (tSeq (tAsg (tDisp trs) (gName i)) rest) ρ D := fun Ds σ H e iv post p hp => by
  have r1 : M.R H (upd H p (.dK [])) := M.new hp
  have nv : ∀ a o, ¬ M.vol a → H a = some o → (upd H p (.dK [])) a = some o ∧ ¬ (M.add p).vol a := fun a o n q => ⟨by rw [upd_ne (ne_of_none q hp)]; exact q, fun z => z.elim n fun z => by rw [z, hp] at q; cases q⟩
  refine h (M.add p) σ _ (e.move nv) (invAdd iv r1 (by rw [upd_same]; intro z; cases z)) _ fun ps H2 l r2 hps hl => ?_
  obtain ⟨l15, hb⟩ := hl
  have hpp : H2 p = some (.dK []) := r2.2 _ upd_same
  refine ⟨hpp, ?_⟩
  obtain ⟨more, e1, e2, e3⟩ := dic_merge hps (dic_nil (K := K) (vol := (M.add p).vol) (H := H2))
  refine ⟨more, e1, by rw [e2]; exact l15, ?_⟩
  have r3 : M.R H (upd H2 p (.dK (mergeK [] more))) := M.grow iv (M.trans r1 r2.1) hp
  have mv : ∀ a o, ¬ (M.add p).vol a → H2 a = some o → (upd H2 p (.dK (mergeK [] more))) a = some o ∧ ¬ (M.add p).vol a := fun a o n q => ⟨by rw [upd_ne (fun z => n (.inr z))]; exact q, n⟩
  have hlen : (mergeK ([] : List (Key × V)) more).length ≤ 15 := by
    have := length_mergeK more []
    rw [List.length_nil] at this
    omega
  refine hb H p Ds _ _ (mergeK [] more) hp iv r3 ?_ upd_same hlen (e3.move mv) ?_ post
  · have : i < σ.length := by
      have := (Paired.length e).symm
      omega
    simp [this]
  · exact Env.set0 i (((e.move nv).on r2).move mv)
theorem sb_done (h : StD M K Ez rest (ρ.set i (.dic f)) D) : StB M K Ez i rest ρ c f D := fun H0 p Ds σ H kvs hp iv r hs hk hl hd e post => by
  have nv : ¬ M.vol p := M.fresh iv hp
  have mv : ∀ a o, ¬ (M.add p).vol a → H a = some o → H a = some o ∧ ¬ M.vol a := fun a o n q => ⟨q, fun z => n (.inl z)⟩
  have es : σ.set i (some (.ref p)) = σ := by
    apply List.ext_getElem?
    intro j
    by_cases hj : i = j
    · subst hj
      rw [hs, List.getElem?_set_self (List.getElem?_eq_some_iff.mp hs).1]
    · rw [List.getElem?_set_ne hj]
  have e' : Env K M.vol H (σ.set i (some (.ref p))) (ρ.set i (.dic f)) := Env.set (o := some (.ref p)) (e := .dic f) ⟨p, kvs, rfl, nv, hk, hd.move mv⟩ i (e.move mv)
  rw [es] at e'
  exact h Ds σ H e' (M.invR iv r) (post.on iv r)
/-- d[k1], .. = (x1, ..) and d[k] = x -/
def gsOf (i : Nat) : List Str → TGs
  | [] => gNil
  | k :: ks => gCons (gSub (tVar i) (tC (.str k)) rSetD) (gsOf i ks)
def putF (f : Str → Option PyData) : List Str → List PyData → Str → Option PyData
  | k :: ks, d :: ds => putF (fun s => if s = k then some d else f s) ks ds
  | _, _ => f
theorem gs_run {p : Addr} {Q : St → Hp → Prop} {σ : St} (hs : σ[i]? = some (some (.ref p))) : ∀ (ks : List Str) (ds : List PyData) (vs : List V) (H : Hp) (kvs : List (Key × V)) (f : Str → Option PyData) (c : Nat), ks.length = ds.length → c + ks.length ≤ 1000 → H p = some (.dK kvs) → kvs.length ≤ c →
    DicOk K (M.add p).vol H kvs f → DtAll K (M.add p).vol H vs ds → (∀ kvs', kvs'.length ≤ c + ks.length → DicOk K (M.add p).vol (upd H p (.dK kvs')) kvs' (putF f ks ds) → Q σ (upd H p (.dK kvs'))) → gsOf i ks vs σ H Q
  | [], [], vs, H, kvs, f, c, _, _, hk, hl, hd, hv, q => by
    cases hv
    have e : upd H p (.dK kvs) = H := by
      funext b
      by_cases hb : b = p
      · subst hb; rw [upd_same, hk]
      · rw [upd_ne hb]
    have := q kvs (by simpa using hl) (by rw [e]; exact hd)
    rw [e] at this
    exact ⟨rfl, this⟩
  | k :: ks, d :: ds, vs, H, kvs, f, c, hln, hc, hk, hl, hd, hv, q => by
    cases hv with
    | @cons v _ _ _ h1 h2 =>
      refine ⟨v, _, rfl, _, hs, p, _, rfl, .inl ⟨kvs, .inr k, hk, rfl, ?_, rfl⟩, ?_⟩
      · have : kvs.length ≤ 1000 := by simp only [List.length_cons] at hc; omega
        exact Nat.lt_of_le_of_lt this (by decide)
      · have mv : ∀ a o, ¬ (M.add p).vol a → H a = some o → (upd H p (.dK (putK kvs (.inr k) v))) a = some o ∧ ¬ (M.add p).vol a := fun a o n z => ⟨by rw [upd_ne (fun w => n (.inr w))]; exact z, n⟩
        refine gs_run hs ks ds _ _ (putK kvs (.inr k) v) (fun s => if s = k then some d else f s) (c + 1) (by simpa using hln) (by simp only [List.length_cons] at hc; omega) upd_same (by have := length_putK kvs (.inr k) v; omega) ((hd.put h1).move mv) (h2.move mv) fun kvs' hl' hd' => ?_
        have e : upd (upd H p (.dK (putK kvs (.inr k) v))) p (.dK kvs') = upd H p (.dK kvs') := upd_upd
        rw [e] at hd' ⊢
        exact q kvs' (by simp only [List.length_cons]; omega) hd'
theorem sb_put (ks : List Str) (hc : c + ks.length ≤ 1000) (h : ∀ M' : Md, EvA M' K ta ρ fun ds => ds.length = ks.length ∧ ds.length ≤ 100000 ∧ StB M K Ez i rest ρ (c + ks.length) (putF f ks ds) D) : StB M K Ez i (tSeq (tAsg (tTup ta) (gTup K ks.length (gsOf i ks))) rest) ρ c f D :=
  fun H0 p Ds σ H kvs hp iv r hs hk hl hd e post => by
    refine h (M.add p) σ H e (invAdd iv r (by rw [hk]; intro z; cases z)) _ fun vs H1 ds r1 dv q => ?_
    obtain ⟨hln, hz, hb⟩ := q
    refine ⟨by rw [dv.length]; exact Nat.le_trans hz (by decide), fun T hT => ?_⟩
    have hk1 : H1 p = some (.dK kvs) := r1.2 _ hk
    have hTp : p ≠ T := fun z => by rw [← z, hk1] at hT; cases hT
    have rT : (M.add p).R H1 (upd H1 T (.tup vs)) := (M.add p).new hT
    refine ⟨T, vs, rfl, .inl (.inl upd_same), by rw [dv.length, hln], ?_⟩
    refine gs_run (M := M) hs ks ds vs _ kvs f c hln.symm hc (by rw [upd_ne hTp]; exact hk1) hl ((hd.move ((M.add p).mv r1)).move ((M.add p).mv rT)) (dv.on rT) fun kvs' hl' hd' => ?_
    have r2 : M.R H0 (upd H1 T (.tup vs)) := M.trans r (M.trans r1.1 rT.1)
    have mv : ∀ a o, ¬ (M.add p).vol a → (upd H1 T (.tup vs)) a = some o → (upd (upd H1 T (.tup vs)) p (.dK kvs')) a = some o ∧ ¬ (M.add p).vol a := fun a o n z => ⟨by rw [upd_ne (fun w => n (.inr w))]; exact z, n⟩
    exact hb H0 p Ds σ _ kvs' hp iv (M.grow iv r2 hp) hs upd_same hl' hd' (((e.on r1).on rT).move mv) post
theorem sb_put1 {k : Str} (hc : c + 1 ≤ 1000) (h : ∀ M' : Md, EvD M' K te ρ fun d => StB M K Ez i rest ρ (c + 1) (fun s => if s = k then some d else f s) D) : StB M K Ez i (tSeq (tAsg te (gSub (tVar i) (tC (.str k)) rSetD)) rest) ρ c f D :=
  fun H0 p Ds σ H kvs hp iv r hs hk hl hd e post => by
    refine h (M.add p) σ H e (invAdd iv r (by rw [hk]; intro z; cases z)) _ fun v H1 d r1 dv hb => ?_
    have hk1 : H1 p = some (.dK kvs) := r1.2 _ hk
    refine ⟨_, hs, p, _, rfl, .inl ⟨kvs, .inr k, hk1, rfl, ?_, rfl⟩, ?_⟩
    · have : kvs.length ≤ 1000 := by omega
      exact Nat.lt_of_le_of_lt this (by decide)
    · have mv : ∀ a o, ¬ (M.add p).vol a → H1 a = some o → (upd H1 p (.dK (putK kvs (.inr k) v))) a = some o ∧ ¬ (M.add p).vol a := fun a o n z => ⟨by rw [upd_ne (fun w => n (.inr w))]; exact z, n⟩
      exact hb H0 p Ds σ _ _ hp iv (M.grow iv (M.trans r r1.1) hp) hs upd_same (by have := length_putK kvs (.inr k) v; omega) (((hd.move ((M.add p).mv r1)).put dv).move mv) ((e.on r1).move mv) post
end
end DL
set_option Elab.async false
set_option linter.all false
set_option maxRecDepth 100000
set_option maxHeartbeats 2000000
namespace DL
open PySem L2
section
variable {M : Md} {K : PySem.W.Frag} {ρ : Rho} {Φ : PyData → Prop} {ta te tl : TE} {tt : TT}
/-! ### list(zip), sorted(set), list(range) -/
theorem strs_get : ∀ {ws : List Str} {j : Nat} {w : Str}, (ws.map V.str)[j]? = some (.str w) → ws[j]? = some w := fun {ws j w} h => by
  rw [List.getElem?_map] at h
  cases e : ws[j]? with
  | none => rw [e] at h; cases h
  | some x => rw [e] at h; cases h; rfl
theorem zip_all {H' : Hp} {vol : Addr → Prop} : ∀ {ts : List Addr} {ws : List Str} {ys : List V} {ds : List PyData}, ws.length = ds.length → DtAll K vol H' ys ds → (∀ t ∈ ts, ¬ vol t) → Paired (fun (t : Addr) (q : Str × V) => H' t = some (.tup [.str q.1, q.2])) ts (ws.zip ys) →
    DtAll K vol H' (ts.map V.ref) ((ws.zip ds).map fun q => .tuple [.str q.1, q.2])
  | ts, [], ys, ds, hl, hy, hn, h => by
    cases h
    exact .nil
  | ts, w :: ws, [], ds, hl, hy, hn, h => by
    cases hy
    cases hl
  | ts, w :: ws, y :: ys, ds, hl, hy, hn, h => by
    cases hy with
    | @cons _ _ d ds h1 h2 =>
      cases h with
      | @cons t _ ts _ a b =>
        exact .cons (.tup a (hn t (by simp)) (.cons (.str w) (.cons h1 .nil))) (zip_all (by simpa using hl) h2 (fun t ht => hn t (by simp [ht])) b)
theorem ed_zip {ta : TA} (h : EvA M K ta ρ fun xs => ∃ (ws : List Str) (ds : List PyData), xs = [.list (ws.map PyData.str), .list ds] ∧ ws.length = ds.length ∧ ws.length ≤ 100000 ∧ Φ (.list ((ws.zip ds).map fun q => .tuple [.str q.1, q.2]))) : EvD M K (LZ.tLstZip K ta) ρ Φ := fun σ H e i Q k =>
  h σ H e i _ fun vs H1 xs r dv hx => by
    obtain ⟨ws, ds, rfl, hl, hz, q⟩ := hx
    cases dv with
    | cons d1 d2 =>
      cases d2 with
      | cons d2 d3 =>
        cases d3
        cases d1 with
        | @lst a us _ ha na aa =>
          cases d2 with
          | @lst b ys _ hb nb ab =>
            have eu := aa.of_strs
            subst eu
            refine ⟨a, b, ws, ys, rfl, SqL.of ha, SqL.of hb, by rw [ab.length]; exact hl, hz, fun H' p ts s hp ht hl' hpr => ?_⟩
            have i1 := M.invR i r
            have rs : M.R H1 H' := M.same s
            refine k _ H' _ (M.trans r rs) (.lst hl' (M.fresh i1 hp) (zip_all hl (ab.on rs) (fun t h => M.fresh i1 (ht t h)) hpr)) q
theorem ed_sset {ta : TA} (h : EvA M K ta ρ fun xs => ∃ ws : List Str, xs = [.list (ws.map PyData.str)] ∧ ws.length < 64 ∧ ∀ ys : List Str, (∀ k ∈ ys, k ∈ ws) → ys.length ≤ ws.length → Φ (.list (ys.map PyData.str))) : EvD M K (SX.tSortedSet K ta) ρ Φ := fun σ H e i Q k =>
  h σ H e i _ fun vs H1 xs r dv hx => by
    obtain ⟨ws, rfl, hz, q⟩ := hx
    cases dv with
    | cons d1 d2 =>
      cases d2
      cases d1 with
      | @lst a us _ ha na aa =>
        have eu := aa.of_strs
        subst eu
        exact ⟨a, ws, rfl, SqL.of ha, hz, fun ys p h1 h2 hp => k _ _ _ (M.trans r (M.new hp)) (.lst upd_same (M.fresh (M.invR i r) hp) (.strs ys)) (q ys h1 h2)⟩
def rgD (a b : Int) : List PyData := (List.range (b - a).toNat).map fun i => .int (a + (i : Nat))
theorem rg_all {vol : Addr → Prop} {H : Hp} (a b : Int) : DtAll K vol H (rgV a b) (rgD a b) := by
  unfold rgV rgD
  induction (List.range (b - a).toNat) with
  | nil => exact .nil
  | cons x l ih => exact .cons (.int _) ih
theorem ed_rg1 (h : EvD M K te ρ fun d => ∃ n, d = .int n ∧ 0 ≤ n ∧ n ≤ 1000000 ∧ Φ (.list (rgD 0 n))) : EvD M K (tLstRg (tRg1 te)) ρ Φ := fun σ H e i Q k =>
  h σ H e i _ fun v H1 d r dv hd => by
    obtain ⟨n, rfl, h0, h1, q⟩ := hd
    cases dv
    exact ⟨n, rfl, RgOk.of_le (Int.le_refl 0) (by omega) (by decide) h0, fun p hp => k _ _ _ (M.trans r (M.new hp)) (.lst upd_same (M.fresh (M.invR i r) hp) (rg_all 0 n)) q⟩
theorem ed_rg2 {tb : TE} (h : EvD M K te ρ fun d => EvD M K tb ρ fun d' => ∃ n m, d = .int n ∧ d' = .int m ∧ 0 ≤ n ∧ n ≤ 1000000 ∧ 0 ≤ m ∧ m ≤ 1000000 ∧ Φ (.list (rgD n m))) : EvD M K (tLstRg (tRg2 te tb)) ρ Φ := fun σ H e i Q k =>
  h σ H e i _ fun v H1 d r dv hd => hd σ H1 (e.on r) (M.invR i r) _ fun v2 H2 d2 r2 dv2 hd2 => by
    obtain ⟨n, m, rfl, rfl, h0, h1, h2, h3, q⟩ := hd2
    cases dv; cases dv2
    exact ⟨n, m, rfl, rfl, RgOk.of_le h0 (by omega) (by omega) h2, fun p hp => k _ _ _ (M.trans (M.trans r r2) (M.new hp)) (.lst upd_same (M.fresh (M.invR i (M.trans r r2)) hp) (rg_all n m)) q⟩
/-! ### tuple * 0, * 1; the text six times -/
theorem rd_repT1 {xs : List PyData} {n : Int} (hne : xs ≠ []) (h : n = 0 ∨ n = 1) (q : Φ (.tuple (if n = 1 then xs else []))) : RD M K (ZM.rRepT1 K) (.tuple xs) (.int n) Φ := fun vx vy H dx dy i Q k => by
  cases dy
  obtain ⟨a, as, ea, ha, aa⟩ := dx.tupE
  have hne' : as ≠ [] := fun z => hne (by subst z; exact aa.nil_of)
  subst ea
  refine ⟨a, n, as, rfl, rfl, ha, hne', ?_⟩
  rcases h with h | h
  · subst h
    exact .inr ⟨rfl, fun p hp => k _ _ _ (M.new hp) (.tup upd_same (M.fresh i hp) .nil) (by simpa using q)⟩
  · subst h
    exact .inl ⟨rfl, k _ H _ (M.refl H) dx (by simpa using q)⟩
theorem rd_repS (q : Φ (.str ZM.hld6)) : RD M K ZM.rRepS (.str ZM.hld) (.int 6) Φ := fun vx vy H dx dy i Q k => by
  cases dy; cases dx
  exact ⟨rfl, rfl, k _ H _ (M.refl H) (.str _) q⟩
/-! ### comprehensions with a target of two names -/
theorem ed_lcLx {g : TG} {vs : List Nat}
    (h : EvD M K tl ρ fun d => ∃ ds, d = .list ds ∧ ds.length ≤ 1000000 ∧ ∃ (ρ2 : PyData → Rho) (p : PyData → Bool) (f : PyData → PyData),
      (∀ x ∈ ds, ∀ (σ : St) (M' : Md) (v : V) (H : Hp), Env K M'.vol H σ ρ → Dt K M'.vol H v x → ∀ Q : St → Hp → Prop, (∀ σ2, wipe σ2 vs = wipe σ vs → Env K M'.vol H σ2 (ρ2 x) → Q σ2 H) → g v (wipe σ vs) H Q) ∧
      (∀ x ∈ ds, ∀ M' : Md, EvT M' K tt (ρ2 x) fun b => b = p x ∧ (p x = true → EvD M' K te (ρ2 x) fun d => d = f x)) ∧ Φ (.list ((ds.filter p).map f))) :
    EvD M K (tLc (iList K tl) g tt te vs) ρ Φ := fun σ H e i Q k => h σ H e i _ fun v H1 d r dv hd => by
  obtain ⟨ds, rfl, hz, ρ2, p, f, hg, ht, q⟩ := hd
  cases dv with
  | @lst a xs _ hx nx ax =>
    refine ⟨a, rfl, ⟨xs, SqL.of hx⟩, fun Dl hD => ?_⟩
    refine lc_list (K := K) (a := a) (xs := xs) (fun n H' => M.R H1 H' ∧ ∃ acc, H' Dl = some (.lst acc) ∧ DtAll K (M.add Dl).vol H' acc (((ds.take n).filter p).map f)) ⟨M.new hD, [], upd_same, .nil⟩ (fun n H' _ hp => SqL.of (M.keep hp.1 nx hx))
      (fun n x H' hi hp => ?_) (fun H' hp => ?_)
    · exact lc_turns (M.invR i r) hD (e.on r) ax hz p f ρ2 (fun x hx M' v H => hg x hx σ M' v H) ht hi hp
    · rw [ax.length, List.take_length] at hp
      exact k _ H' _ (M.trans r hp.1) (lc_done (M.invR i r) hD hp (ds := ds)) q
theorem set_comm' {α : Type} (l : List α) {i j : Nat} (h : i ≠ j) (a b : α) : (l.set i a).set j b = (l.set j b).set i a := List.set_comm a b h
theorem hg_pair {a b : Nat} (hab : a ≠ b) (y z : PyData) (σ : St) (M' : Md) (v : V) (H : Hp) (e : Env K M'.vol H σ ρ) (dv : Dt K M'.vol H v (.tuple [y, z])) (Q : St → Hp → Prop) (k : ∀ σ2, wipe σ2 [a, b] = wipe σ [a, b] → Env K M'.vol H σ2 ((ρ.set a (.dat y)).set b (.dat z)) → Q σ2 H) :
    gTup K 2 (gCons (gName a) (gCons (gName b) gNil)) v (wipe σ [a, b]) H Q := by
  obtain ⟨T, xs, rfl, hT, ax⟩ := dv.tupE
  cases ax with
  | @cons v1 _ _ _ a1 ax =>
    cases ax with
    | @cons v2 _ _ _ a2 ax =>
      cases ax
      have ew : wipe σ [a, b] = (σ.set b none).set a none := rfl
      have hba : b ≠ a := Ne.symm hab
      have e1 : ((wipe σ [a, b]).set a (some v1)).set b (some v2) = (σ.set a (some v1)).set b (some v2) := by
        rw [ew, List.set_set, set_comm' σ hba none (some v1), List.set_set]
      refine ⟨T, [v1, v2], rfl, hT, rfl, ?_⟩
      refine ⟨v1, [v2], rfl, v2, [], rfl, rfl, ?_⟩
      show Q (((wipe σ [a, b]).set a (some v1)).set b (some v2)) H
      rw [e1]
      refine k _ ?_ ((e.setD a1 a).setD a2 b)
      show (((σ.set a (some v1)).set b (some v2)).set b none).set a none = (σ.set b none).set a none
      rw [List.set_set, set_comm' _ hab, List.set_set]
end
def pr2 {α : Type} (dflt : α) (p : PyData → PyData → α) : PyData → α
  | .tuple [y, z] => p y z
  | _ => dflt
section
variable {M : Md} {K : PySem.W.Frag} {ρ : Rho} {Φ : PyData → Prop} {te tl : TE} {tt : TT}
theorem ed_lcP {a b : Nat} {vs : List Nat} (hv : vs = [a, b]) (hab : a ≠ b) (h : EvD M K tl ρ fun d => ∃ ds, d = .list ds ∧ ds.length ≤ 1000000 ∧ (∀ x ∈ ds, ∃ y z, x = .tuple [y, z]) ∧ ∃ (p : PyData → PyData → Bool) (f : PyData → PyData → PyData),
      (∀ y z, PyData.tuple [y, z] ∈ ds → ∀ M' : Md, EvT M' K tt ((ρ.set a (.dat y)).set b (.dat z)) fun c => c = p y z ∧ (p y z = true → EvD M' K te ((ρ.set a (.dat y)).set b (.dat z)) fun d => d = f y z)) ∧ Φ (.list ((ds.filter (pr2 false p)).map (pr2 .none f)))) :
    EvD M K (tLc (iList K tl) (gTup K 2 (gCons (gName a) (gCons (gName b) gNil))) tt te vs) ρ Φ := hv ▸
  ed_lcLx (h.mono fun d ⟨ds, e, hz, hp, p, f, ht, q⟩ => ⟨ds, e, hz, pr2 ρ (fun y z => (ρ.set a (.dat y)).set b (.dat z)), pr2 false p, pr2 .none f, fun x hx => by
    obtain ⟨y, z, rfl⟩ := hp x hx
    exact fun σ M' v H e dv Q k => hg_pair hab y z σ M' v H e dv Q k, fun x hx M' => by
    obtain ⟨y, z, rfl⟩ := hp x hx
    exact ht y z hx M', q⟩)
end
/-! ### the jar -/
section
variable {K : PySem.W.Frag} {j : Addr} {ρ : Rho} {Φ : PyData → Prop} {te : TE} {Ez : Addr → Hp → Prop} {D : EndD} {n : Nat}
theorem ed_jar0 (hn : ρ[n]? = some (.adr j)) (q : ∀ x : Int, 0 ≤ x → Φ (.int x)) : EvD (jarM j) K (tOp (rIxLi K) (tVar n) (tC (.int 0))) ρ Φ := fun σ H e i Q k => by
  obtain ⟨x, y, h1, h2, h3, h4⟩ := i
  exact ⟨_, e.adr hn, j, _, 0, .int x, rfl, rfl, SqL.of h1, rfl, k _ H _ ((jarM j).refl H) (.int x) (q x h2)⟩
theorem ed_jar1 (hn : ρ[n]? = some (.adr j)) (q : ∀ y : Int, 0 ≤ y → y < 2147482943 → Φ (.int y)) : EvD (jarM j) K (tOp (rIxLi K) (tVar n) (tC (.int 1))) ρ Φ := fun σ H e i Q k => by
  obtain ⟨x, y, h1, h2, h3, h4⟩ := i
  exact ⟨_, e.adr hn, j, _, 1, .int y, rfl, rfl, SqL.of h1, rfl, k _ H _ ((jarM j).refl H) (.int y) (q y h3 h4)⟩
theorem jar_put {H H' : Hp} {o : HO} (r : RJ j H H') (hj : ∃ x y : Int, o = .lst [.int x, .int y] ∧ 0 ≤ x ∧ 0 ≤ y ∧ y < 2147482943) : RJ j H (upd H' j o) := by
  obtain ⟨x, y, rfl, h⟩ := hj
  exact ⟨fun a u n q => by rw [upd_ne n]; exact r.1 a u n q, fun _ => ⟨x, y, upd_same, h⟩⟩
theorem sd_jset0 (hn : ρ[n]? = some (.adr j)) (h : EvD (jarM j) K te ρ fun d => ∃ m, d = .int m ∧ 0 ≤ m ∧ D.nx ρ) : StD (jarM j) K Ez (tAsg te (gSub (tVar n) (tC (.int 0)) rSetL)) ρ D := fun Ds σ H e i p =>
  h σ H e i _ fun v H1 d r dv hd => by
    obtain ⟨m, rfl, h0, q⟩ := hd
    cases dv
    obtain ⟨x, y, h1, h2, h3, h4⟩ := (jarM j).invR i r
    have r2 : RJ j H (upd H1 j (.lst [.int m, .int y])) := jar_put r ⟨m, y, rfl, h0, h3, h4⟩
    exact ⟨_, (e.on r).adr hn, j, _, 0, 0, rfl, rfl, h1, rfl, p.nx σ _ ρ r2 (e.on r2) q⟩
theorem sd_jset1 (hn : ρ[n]? = some (.adr j)) (h : EvD (jarM j) K te ρ fun d => ∃ m, d = .int m ∧ 0 ≤ m ∧ m < 2147482943 ∧ D.nx ρ) : StD (jarM j) K Ez (tAsg te (gSub (tVar n) (tC (.int 1)) rSetL)) ρ D := fun Ds σ H e i p =>
  h σ H e i _ fun v H1 d r dv hd => by
    obtain ⟨m, rfl, h0, h5, q⟩ := hd
    cases dv
    obtain ⟨x, y, h1, h2, h3, h4⟩ := (jarM j).invR i r
    have r2 : RJ j H (upd H1 j (.lst [.int x, .int m])) := jar_put r ⟨x, m, rfl, h2, h0, h5⟩
    exact ⟨_, (e.on r).adr hn, j, _, 1, 1, rfl, rfl, h1, rfl, p.nx σ _ ρ r2 (e.on r2) q⟩
end
end DL
set_option Elab.async false
set_option linter.all false
set_option maxRecDepth 100000
set_option maxHeartbeats 2000000
namespace CL
open PySem L2 DL
local macro_rules | `(tactic| walk_at "dl1") => `(tactic| first
  | ((with_reducible refine' ed_var ?hv ?_); (case hv => exact rfl))
  | with_reducible refine ed_int ?_
  | with_reducible refine ed_str ?_
  | with_reducible refine ed_bl ?_
  | with_reducible refine ed_non ?_
  | with_reducible refine ed_op ?_
  | with_reducible refine ea_cons ?_
  | with_reducible refine ea_nil ?_
  | with_reducible refine ed_isi ?_
  | with_reducible refine ed_cb ?_
  | with_reducible refine ed_zip ?_
  | with_reducible refine ed_sset ?_
  | with_reducible refine ed_rg1 ?_
  | with_reducible refine ed_rg2 ?_
  | with_reducible refine ed_call ?_
  | with_reducible refine ed_tup ?_
  | with_reducible refine ed_lst ?_
  | with_reducible refine ed_andV ?_
  | with_reducible refine ed_orV ?_
  | with_reducible refine ed_notV ?_
  | with_reducible refine ed_chain ?_
  | with_reducible refine ed_if ?_
  | with_reducible refine ed_un ?_
  | with_reducible refine ed_sl ?_
  | with_reducible refine ed_revL ?_
  | with_reducible refine ed_m1 ?_
  | with_reducible refine eo_no ?_
  | with_reducible refine eo_some ?_
  | with_reducible refine et_test ?_
  | with_reducible refine et_B ?_
  | with_reducible refine et_and ?_
  | with_reducible refine et_or ?_
  | with_reducible refine et_not ?_
  | with_reducible refine et_yes ?_
  | with_reducible refine sb_start (Nat.le_of_ble_eq_true rfl) (fun M' => ?_)
  | with_reducible refine sd_seq ?_
  | with_reducible refine ep_cons ?_
  | with_reducible refine ep_nil ?_
  | with_reducible refine sd_next ?_
  | with_reducible refine sd_set ?_
  | with_reducible refine sd_ret ?_
  | with_reducible refine sd_drop ?_
  | with_reducible refine sd_if ?_
  | with_reducible refine sd_par ?_
  | with_reducible refine sd_par3 ?_
  | with_reducible refine rd_addI ?_
  | with_reducible refine rd_subI ?_
  | with_reducible refine rd_ltI ?_
  | with_reducible refine rd_leI ?_
  | with_reducible refine rd_gtI ?_
  | with_reducible refine rd_geI ?_
  | with_reducible refine rd_isNo ?_
  | with_reducible refine rd_notNo ?_
  | with_reducible refine cd_lenL ?_
  | with_reducible refine cd_lenT ?_
  | with_reducible refine cd_abs ?_
  | with_reducible refine cd_intI ?_
  | with_reducible refine cd_intB ?_
  | with_reducible refine cd_strS ?_
  | with_reducible refine cd_listT ?_
  | with_reducible refine cd_tupleL ?_
  | with_reducible refine sd_L ?_
  | with_reducible refine sd_T ?_
  | with_reducible refine gd_name ?_
  | ((with_reducible refine' ed_lcL1y ?hv ?_); (case hv => exact rfl))
  | ((with_reducible refine' ed_lcT1y ?hv ?_); (case hv => exact rfl))
  | ((with_reducible refine' ed_lcL1 ?hv ?_); (case hv => exact rfl))
  | ((with_reducible refine' ed_lcT1 ?hv ?_); (case hv => exact rfl))
  | with_reducible refine exB ?_
  | with_reducible refine exI ?_
  | with_reducible refine exS ?_
  | with_reducible refine exL ?_
  | with_reducible refine exT ?_
  | with_reducible refine exLs ?_
  | with_reducible refine exIs ?_
  | with_reducible refine ex2 ?_
  | with_reducible refine ex3 ?_
  | with_reducible refine ln0 ?_
  | with_reducible refine ln1 ?_
  | with_reducible refine ln2 ?_
  | with_reducible refine ln3 ?_
  | with_reducible refine ln4 ?_
  | with_reducible refine ln5 ?_
  | with_reducible refine ln6 ?_
  | with_reducible refine ln7 ?_
  | with_reducible refine ln8 ?_
  | with_reducible refine ln9 ?_
  | with_reducible refine ln10 ?_
  | with_reducible refine ln11 ?_
  | with_reducible refine ln12 ?_
  | with_reducible refine cTT ?_
  | with_reducible refine cFT ?_
  | with_reducible refine cTF ?_
  | with_reducible refine cFF ?_
  | with_reducible refine nTT ?_
  | with_reducible refine nFT ?_
  | with_reducible refine nTF ?_
  | with_reducible refine nFF ?_
  | refine rd_ixT0 ?_
  | refine rd_ixL0 ?_
  | refine rd_ixT rfl ?_
  | refine rd_ixL rfl ?_)
local macro_rules | `(tactic| walk_at "dl") => `(tactic| repeat (walk_at "dl1"))
local macro_rules | `(tactic| walk_at "call1") => `(tactic| ((refine ⟨_, rfl, ?hcd, fun r hr => ?hcr⟩); (case hcd => first | assumption | rfl); (case hcr => (subst hr; try walk_at "dl"))))
local macro_rules | `(tactic| walk_at "and") => `(tactic| (refine ed_andE ?_; try walk_at "dl"))
local macro_rules | `(tactic| walk_at "k") => `(tactic| ((first | refine ct rfl ?_ | refine cf rfl ?_ | refine ct' rfl ?_ | refine cf' rfl ?_); try walk_at "dl"))
/-! ### the law's own judge of a word -/
def numsS (a b : Nat) : List PySem.Str := (List.range (b - a)).map fun i => numS (a + i)
def wordG (n : Nat) (w sort : PySem.Str) : Bool :=
  if sort = "name" then decide (w ∈ NMS) else if sort = "tape" then decide (w ∈ numsS 0 n) else if sort = "mark" then decide (w ∈ numsS 3 21) else decide (w ∈ numsS 1 21)
def strF : PyData → PyData
  | .int i => .str (PySem.Str.ofString (toString i))
  | d => d
theorem rg_str (a b : Nat) : (rgD (a : Int) (b : Int)).map strF = (numsS a b).map PyData.str := by
  unfold rgD numsS
  rw [List.map_map, List.map_map]
  have e : ((b : Int) - (a : Int)).toNat = b - a := by omega
  rw [e]
  apply List.map_congr_left
  intro i _
  show PyData.str (PySem.Str.ofString (toString ((a : Int) + (i : Nat)))) = PyData.str (PySem.Str.ofString (toString (((a + i : Nat)) : Int)))
  rw [Int.natCast_add]
theorem rg_len (a b : Int) : (rgD a b).length = (b - a).toNat := by unfold rgD; rw [List.length_map, List.length_range]
abbrev spWordGood (K : PySem.W.Frag) : Sp := spP K (fun x : PySem.Str × PySem.Str × Nat => [.str x.1, .str x.2.1, .int x.2.2]) (fun x => x.2.2 ≤ 2 ∧ (x.2.1 = "name" ∨ x.2.1 = "tape" ∨ x.2.1 = "mark" ∨ x.2.1 = "many")) (fun x r => r = .bool (wordG x.2.2 x.1 x.2.1))
theorem ok_law_word_good {P : Program} {w : World} {K : PySem.W.Frag} {mg : PySem.Str → Option Value} {base : Heap} {a : Ads} {d : Fds} (T : Txt K mg a d) : FnOk P w K mg base CX0 1 a.law_word_good d.law_word_good P_law_word_good (spWordGood K) := by
  refine T.F_law_word_good.ok sc_law_word_good (fun vs H Q E h => ?_) (fun cdv A outer s H vs Q E hr h => ?_)
  · obtain ⟨vol, x, _, ha, _⟩ := h
    have e := ha.length
    rw [e]
    rfl
  refine ⟨_, (pss_cons (ps_if (pt_cmpR (oEqP hr.units) (pv 1) pe_str rfl) (pss_one (ps_ret (pe_cmpR (oInP hr.units) (pv 0) (pe_lst (pa_cons pe_str (pa_cons pe_str (pa_cons pe_str (pa_cons pe_str (pa_cons pe_str (pa_cons pe_str pa_nil))))))) rfl))) pss_nil) (pss_cons (ps_set (i := 3) sc_law_word_good.nd rfl (Or.inl rfl) (pe_disp (pps_cons pe_str (pe_listRg rfl rfl T.list (prg_1 rfl T.range (pv 2))) (pps_cons pe_str (pe_listRg rfl rfl T.list (prg_2 rfl T.range pe_int pe_int)) (pps_cons pe_str (pe_listRg rfl rfl T.list (prg_2 rfl T.range pe_int pe_int)) pps_nil))) rfl rfl (by simp) (by decide))) (pss_one (ps_ret (pe_cmpR (oInP hr.units) (pv 0) (pe_lc (own := [("_law_number", 4)]) (g := gName 4) rfl sc_law_word_good.nd (pi_list (pe_dget (hu_of hr) (pv 3) (pv 1) (fun _ _ => rfl))) (blkOk_by (own := [("_law_number", 4)]) (N := N_law_word_good) (sc := defScope s_law_word_good) (by decide +kernel)) (fun _ _ _ _ _ => pg_name (i := 4) sc_law_word_good.nd rfl (Or.inl rfl)) (fun _ _ _ _ _ => pts_nil) (fun _ _ _ _ _ => (pe_callTy cStr (by rfl) T.str (by decide +kernel) (pa_cons (pv 4) pa_nil)))) rfl))))), run_pure h (fun M x hx => ?_)⟩
  try dsimp only [cxOf, List.map_cons, List.map_nil]
  obtain ⟨w, sort, n⟩ := x
  obtain ⟨hn, hs⟩ := hx
  dsimp only at hn hs ⊢
  walk_at "dl"
  refine rd_eqP okEq_ss ?_
  rw [eqv_str]
  refine exB ⟨fun hc => ?_, fun hc => ?_⟩
  · have h1 : sort = "name" := of_decide_eq_true hc
    walk_at "dl"
    refine rd_inL (es := NMS.map PyData.str) okIn_strs ?_
    rw [any_strs]
    unfold wordG
    rw [if_pos h1]
  · have h1 : ¬ sort = "name" := of_decide_eq_false hc
    have hs' := hs.resolve_left h1
    have key : ∃ a b : Nat, dicF [("tape", .list (rgD 0 n)), ("mark", .list (rgD 3 21)), ("many", .list (rgD 1 21))] sort = some (.list (rgD a b)) ∧ b ≤ 21 ∧ wordG n w sort = decide (w ∈ numsS a b) := by
      unfold wordG
      rcases hs' with h | h | h
      · refine ⟨0, n, ?_, by omega, ?_⟩
        · rw [h]
          simp only [dicF, List.foldl_cons, List.foldl_nil]
          rw [if_neg (by decide +kernel), if_neg (by decide +kernel), if_pos trivial]
          rfl
        · rw [h, if_neg (by decide +kernel), if_pos rfl]
      · refine ⟨3, 21, ?_, by omega, ?_⟩
        · rw [h]
          simp only [dicF, List.foldl_cons, List.foldl_nil]
          rw [if_neg (by decide +kernel), if_pos trivial]
          rfl
        · rw [h, if_neg (by decide +kernel), if_neg (by decide +kernel), if_pos rfl]
      · refine ⟨1, 21, ?_, by omega, ?_⟩
        · rw [h]
          simp only [dicF, List.foldl_cons, List.foldl_nil]
          rw [if_pos trivial]
          rfl
        · rw [h, if_neg (by decide +kernel), if_neg (by decide +kernel), if_neg (by decide +kernel)]
    obtain ⟨a1, b1, k1, k2, k3⟩ := key
    walk_at "dl"
    refine ⟨by omega, by omega, ?_⟩
    walk_at "dl"
    refine ⟨3, 21, rfl, rfl, by omega, by omega, by omega, by omega, ?_⟩
    walk_at "dl"
    refine ⟨1, 21, rfl, rfl, by omega, by omega, by omega, by omega, ?_⟩
    walk_at "dl"
    refine ⟨by simp, sb_done ?_⟩
    walk_at "dl"
    refine ed_dget rfl ?_
    walk_at "dl"
    refine ⟨sort, _, rfl, k1, ?_⟩
    walk_at "dl"
    refine ⟨by rw [rg_len]; omega, strF, fun x hx M' => ?_, ?_⟩
    · unfold rgD at hx
      obtain ⟨i, hi, rfl⟩ := List.mem_map.mp hx
      have hi' := List.mem_range.mp hi
      walk_at "dl"
      refine cd_strI (Nat.lt_of_le_of_lt (Nat.log2_le_self _) (by omega)) ?_
      rfl
    · rw [rg_str]
      refine rd_inL (es := (numsS a1 b1).map PyData.str) okIn_strs ?_
      rw [any_strs, k3]
end CL
set_option Elab.async false
set_option linter.all false
set_option maxRecDepth 100000
set_option maxHeartbeats 2000000
namespace CL
open PySem L2 DL
local macro_rules | `(tactic| walk_at "dl1") => `(tactic| first
  | ((with_reducible refine' ed_var ?hv ?_); (case hv => exact rfl))
  | with_reducible refine ed_int ?_
  | with_reducible refine ed_str ?_
  | with_reducible refine ed_bl ?_
  | with_reducible refine ed_non ?_
  | with_reducible refine ed_op ?_
  | with_reducible refine ea_cons ?_
  | with_reducible refine ea_nil ?_
  | with_reducible refine ed_isi ?_
  | with_reducible refine ed_cb ?_
  | with_reducible refine ed_zip ?_
  | with_reducible refine ed_sset ?_
  | with_reducible refine ed_rg1 ?_
  | with_reducible refine ed_rg2 ?_
  | with_reducible refine ed_call ?_
  | with_reducible refine ed_tup ?_
  | with_reducible refine ed_lst ?_
  | with_reducible refine ed_andV ?_
  | with_reducible refine ed_orV ?_
  | with_reducible refine ed_notV ?_
  | with_reducible refine ed_chain ?_
  | with_reducible refine ed_if ?_
  | with_reducible refine ed_un ?_
  | with_reducible refine ed_sl ?_
  | with_reducible refine ed_revL ?_
  | with_reducible refine ed_m1 ?_
  | with_reducible refine eo_no ?_
  | with_reducible refine eo_some ?_
  | with_reducible refine et_test ?_
  | with_reducible refine et_B ?_
  | with_reducible refine et_and ?_
  | with_reducible refine et_or ?_
  | with_reducible refine et_not ?_
  | with_reducible refine et_yes ?_
  | with_reducible refine sb_start (Nat.le_of_ble_eq_true rfl) (fun M' => ?_)
  | with_reducible refine sd_seq ?_
  | with_reducible refine ep_cons ?_
  | with_reducible refine ep_nil ?_
  | with_reducible refine sd_next ?_
  | with_reducible refine sd_set ?_
  | with_reducible refine sd_ret ?_
  | with_reducible refine sd_drop ?_
  | with_reducible refine sd_if ?_
  | with_reducible refine sd_par ?_
  | with_reducible refine sd_par3 ?_
  | with_reducible refine rd_addI ?_
  | with_reducible refine rd_subI ?_
  | with_reducible refine rd_ltI ?_
  | with_reducible refine rd_leI ?_
  | with_reducible refine rd_gtI ?_
  | with_reducible refine rd_geI ?_
  | with_reducible refine rd_isNo ?_
  | with_reducible refine rd_notNo ?_
  | with_reducible refine cd_lenL ?_
  | with_reducible refine cd_lenT ?_
  | with_reducible refine cd_abs ?_
  | with_reducible refine cd_intI ?_
  | with_reducible refine cd_intB ?_
  | with_reducible refine cd_strS ?_
  | with_reducible refine cd_listT ?_
  | with_reducible refine cd_tupleL ?_
  | with_reducible refine sd_L ?_
  | with_reducible refine sd_T ?_
  | with_reducible refine gd_name ?_
  | ((with_reducible refine' ed_lcL1y ?hv ?_); (case hv => exact rfl))
  | ((with_reducible refine' ed_lcT1y ?hv ?_); (case hv => exact rfl))
  | ((with_reducible refine' ed_lcL1 ?hv ?_); (case hv => exact rfl))
  | ((with_reducible refine' ed_lcT1 ?hv ?_); (case hv => exact rfl))
  | with_reducible refine exB ?_
  | with_reducible refine exI ?_
  | with_reducible refine exS ?_
  | with_reducible refine exL ?_
  | with_reducible refine exT ?_
  | with_reducible refine exLs ?_
  | with_reducible refine exIs ?_
  | with_reducible refine ex2 ?_
  | with_reducible refine ex3 ?_
  | with_reducible refine ln0 ?_
  | with_reducible refine ln1 ?_
  | with_reducible refine ln2 ?_
  | with_reducible refine ln3 ?_
  | with_reducible refine ln4 ?_
  | with_reducible refine ln5 ?_
  | with_reducible refine ln6 ?_
  | with_reducible refine ln7 ?_
  | with_reducible refine ln8 ?_
  | with_reducible refine ln9 ?_
  | with_reducible refine ln10 ?_
  | with_reducible refine ln11 ?_
  | with_reducible refine ln12 ?_
  | with_reducible refine cTT ?_
  | with_reducible refine cFT ?_
  | with_reducible refine cTF ?_
  | with_reducible refine cFF ?_
  | with_reducible refine nTT ?_
  | with_reducible refine nFT ?_
  | with_reducible refine nTF ?_
  | with_reducible refine nFF ?_
  | refine rd_ixT0 ?_
  | refine rd_ixL0 ?_
  | refine rd_ixT rfl ?_
  | refine rd_ixL rfl ?_)
local macro_rules | `(tactic| walk_at "dl") => `(tactic| repeat (walk_at "dl1"))
local macro_rules | `(tactic| walk_at "call1") => `(tactic| ((refine ⟨_, rfl, ?hcd, fun r hr => ?hcr⟩); (case hcd => first | assumption | rfl); (case hcr => (subst hr; try walk_at "dl"))))
local macro_rules | `(tactic| walk_at "and") => `(tactic| (refine ed_andE ?_; try walk_at "dl"))
local macro_rules | `(tactic| walk_at "k") => `(tactic| ((first | refine ct rfl ?_ | refine cf rfl ?_ | refine ct' rfl ?_ | refine cf' rfl ?_); try walk_at "dl"))
/-! ### the law's own judge of a line -/
def sortsL (w : PySem.Str) : List PySem.Str :=
  if w = "split" then ["name", "name", "name", "tape", "mark"] else if w = "again" then ["name", "tape"] else if w = "read" then ["name", "tape"] else if w = "hold" then ["name", "name"] else if w = "half" then ["name", "name"] else
  if w = "inner" then ["name", "name", "many"] else if w = "join" then ["name", "name", "name"] else if w = "outer" then ["name", "name", "many"] else if w = "cut" then ["name", "tape", "mark"] else []
def sortsF : PySem.Str → Option PyData := fun w =>
  if w = "split" then some (.list [.str "name", .str "name", .str "name", .str "tape", .str "mark"]) else if w = "again" then some (.list [.str "name", .str "tape"]) else if w = "read" then some (.list [.str "name", .str "tape"]) else if w = "hold" then some (.list [.str "name", .str "name"]) else
  if w = "half" then some (.list [.str "name", .str "name"]) else if w = "inner" then some (.list [.str "name", .str "name", .str "many"]) else if w = "join" then some (.list [.str "name", .str "name", .str "name"]) else if w = "outer" then some (.list [.str "name", .str "name", .str "many"]) else
  if w = "cut" then some (.list [.str "name", .str "tape", .str "mark"]) else none
theorem sortsF_eq (w : PySem.Str) : (sortsF w).getD (.list []) = .list ((sortsL w).map PyData.str) := by
  unfold sortsF sortsL
  repeat (split; · rfl)
  try rfl
theorem sortsL_mem (w : PySem.Str) : ∀ q ∈ sortsL w, q = "name" ∨ q = "tape" ∨ q = "mark" ∨ q = "many" := by
  unfold sortsL
  repeat (split; · decide +kernel)
  try decide +kernel
def badP (n : Nat) : PyData → PyData → Bool
  | .str u, .str s => !wordG n u s
  | _, _ => false
def pairD (q : PySem.Str × PySem.Str) : PyData := .tuple [.str q.1, .str q.2]
theorem zip_pairs (ws ss : List PySem.Str) : ((ws.zip (ss.map PyData.str)).map fun q => PyData.tuple [.str q.1, q.2]) = (ws.zip ss).map pairD := by
  rw [List.zip_map_right, List.map_map]
  rfl
theorem bad_list (n : Nat) : ∀ l : List (PySem.Str × PySem.Str), (((l.map pairD).filter (pr2 false (badP n))).map (pr2 .none fun y _ => y)) = ((l.filter (fun q => !wordG n q.1 q.2)).map (·.1)).map PyData.str
  | [] => rfl
  | q :: l => by
    rw [List.map_cons, List.filter_cons, List.filter_cons]
    have e : pr2 false (badP n) (pairD q) = !wordG n q.1 q.2 := rfl
    rw [e]
    cases wordG n q.1 q.2 with
    | true => exact bad_list n l
    | false =>
      show PyData.str q.1 :: _ = PyData.str q.1 :: _
      rw [← bad_list n l]
theorem sb_doneE {M : Md} {K : PySem.W.Frag} {Ez : Addr → Hp → Prop} {ρ : Rho} {rest : TS} {D : EndD} {f : PySem.Str → Option PyData} {i c : Nat} (f' : PySem.Str → Option PyData) (e : f = f') (h : StD M K Ez rest (ρ.set i (.dic f')) D) : StB M K Ez i rest ρ c f D := sb_done (e ▸ h)
theorem eqv_nil (xs : List PyData) : PyData.eqv (.list xs) (.list []) = xs.isEmpty := by cases xs <;> simp [PyData.eqv, PyData.eqvAll]
theorem okEq_strsN {xs : List PySem.Str} : okEq (.list (xs.map PyData.str)) (.list []) := ⟨plainAll_strs xs, rfl, by simp [PyData.depth, PyData.depthAll]⟩
def lineIf (n : Nat) : List PySem.Str → Bool
  | [a, b, c] => decide (c ∈ SEENS) && (wordG n a "name" && wordG n b "name")
  | _ => false
def lineEnd (w : PySem.Str) : List PySem.Str → Bool
  | a :: b :: _ => decide (¬ w = "split") || decide (¬ a = b)
  | _ => true
def lineW2 (n : Nat) : List PySem.Str → Bool
  | [] => false
  | w :: rest => if w = "if" then lineIf n rest
    else decide ((sortsL w).length ≠ 0 ∧ (sortsL w).length = rest.length) && ((rest.zip (sortsL w)).all (fun q => wordG n q.1 q.2) && lineEnd w rest)
def lineG (n : Nat) (l : PySem.Str) : Bool := decide (l ∈ (["else", "end"] : List PySem.Str)) || lineW2 n (Txt.split l " ")
abbrev spLineGood (K : PySem.W.Frag) : Sp := spP K (fun x : PySem.Str × Nat => [.str x.1, .int x.2]) (fun x => x.2 ≤ 2 ∧ x.1.length ≤ 50000) (fun x r => r = .bool (lineG x.2 x.1))
theorem cut_tail {α : Type} (w : α) (ws : List α) : cutD (w :: ws) (some 1) none = ws := by
  unfold cutD
  have e1 : HT.sIx (w :: ws).length 0 (some 1) = 1 := by
    simp [HT.sIx]
  rw [e1]
  show (ws.take _) = ws
  apply List.take_of_length_le
  simp [HT.sIx]
theorem ok_law_line_good {P : Program} {w : World} {K : PySem.W.Frag} {mg : PySem.Str → Option Value} {base : Heap} {a : Ads} {d : Fds} (T : Txt K mg a d) : FnOk P w K mg base CX0 2 a.law_line_good d.law_line_good P_law_line_good (spLineGood K) := by
  have G_law_word_good := ok_law_word_good (P := P) (w := w) (base := base) T
  refine T.F_law_line_good.ok sc_law_line_good (fun vs H Q E h => ?_) (fun cdv A outer s H vs Q E hr h => ?_)
  · obtain ⟨vol, x, _, ha, _⟩ := h
    have e := ha.length
    rw [e]
    rfl
  refine ⟨_, (pss_cons (ps_if (pt_cmpR (oInP hr.units) (pv 0) (pe_lst (pa_cons pe_str (pa_cons pe_str pa_nil))) rfl) (pss_one (ps_ret pe_bl)) pss_nil) (pss_cons (ps_set (i := 2) sc_law_line_good.nd rfl (Or.inl rfl) (pe_m1 F.slot_str_split F.type_str_split mSplit (pv 0) pe_str)) (pss_cons (ps_set (i := 3) sc_law_line_good.nd rfl (Or.inl rfl) (pe_disp (pps_cons pe_str (pe_lst (pa_cons pe_str (pa_cons pe_str (pa_cons pe_str pa_nil)))) (pps_cons pe_str (pe_lst (pa_cons pe_str (pa_cons pe_str (pa_cons pe_str pa_nil)))) (pps_cons pe_str (pe_op oRepL (pe_lst (pa_cons pe_str pa_nil)) pe_int) pps_nil))) rfl rfl (by simp) (by decide))) (pss_cons (ps_asg (pe_tup (pa_cons (pe_lst (pa_cons pe_str (pa_cons pe_str (pa_cons pe_str pa_nil)))) (pa_cons (pe_op oRepL (pe_lst (pa_cons pe_str pa_nil)) pe_int) (pa_cons (pe_op oRepL (pe_lst (pa_cons pe_str pa_nil)) pe_int) pa_nil)))) (pg_tup rfl (pgs_cons (pg_sub (pv 3) pe_str (set_dict (hu_of hr))) (pgs_cons (pg_sub (pv 3) pe_str (set_dict (hu_of hr))) (pgs_cons (pg_sub (pv 3) pe_str (set_dict (hu_of hr))) pgs_nil))))) (pss_cons (ps_asg (pe_tup (pa_cons (pe_lst (pa_cons pe_str (pa_cons pe_str pa_nil))) (pa_cons (pe_lst (pa_cons pe_str (pa_cons pe_str pa_nil))) pa_nil))) (pg_tup rfl (pgs_cons (pg_sub (pv 3) pe_str (set_dict (hu_of hr))) (pgs_cons (pg_sub (pv 3) pe_str (set_dict (hu_of hr))) pgs_nil)))) (pss_cons (ps_asg (pe_lst (pa_cons pe_str (pa_cons pe_str (pa_cons pe_str (pa_cons pe_str (pa_cons pe_str pa_nil)))))) (pg_sub (pv 3) pe_str (set_dict (hu_of hr)))) (pss_cons (ps_if (pt_cmpR (oEqP hr.units) (pe_ix ixLi (pv 2) pe_int (fun _ _ => rfl)) pe_str rfl) (pss_cons (ps_if (PW.pt (pw_or (pt_cmpR (oNeP hr.units) (pe_callB cLen (by rfl) T.len (by decide +kernel) (pa_cons (pv 2) pa_nil)) pe_int rfl) (pw_or1 (pt_cmpR (oNotInP hr.units) (pe_ix ixLi (pv 2) pe_int (fun _ _ => rfl)) (pe_lst (pa_cons pe_str (pa_cons pe_str (pa_cons pe_str pa_nil)))) rfl)))) (pss_one (ps_ret pe_bl)) pss_nil) (pss_one (ps_ret (pe_and (pe_call G_law_word_good (hr.mono (by decide)) rfl T.g_law_word_good T.k_law_word_good T.b_law_word_good .nil pass0 (pa_cons (pe_ix ixLi (pv 2) pe_int (fun _ _ => rfl)) (pa_cons pe_str (pa_cons (pv 1) pa_nil)))) (pe_one (pe_call G_law_word_good (hr.mono (by decide)) rfl T.g_law_word_good T.k_law_word_good T.b_law_word_good .nil pass0 (pa_cons (pe_ix ixLi (pv 2) pe_int (fun _ _ => rfl)) (pa_cons pe_str (pa_cons (pv 1) pa_nil))))))))) pss_nil) (pss_cons (ps_set (i := 4) sc_law_line_good.nd rfl (Or.inl rfl) (pe_dget2 (hu_of hr) (pv 3) (pe_ix ixLi (pv 2) pe_int (fun _ _ => rfl)) (pe_lst pa_nil) ⟨rfl, rfl, rfl, rfl⟩)) (pss_cons (ps_if (PW.pt (pw_or (pt_cmpR (oEqP hr.units) (pv 4) (pe_lst pa_nil) rfl) (pw_or1 (pt_cmpR (oNeP hr.units) (pe_callB cLen (by rfl) T.len (by decide +kernel) (pa_cons (pv 4) pa_nil)) (pe_op oSubI (pe_callB cLen (by rfl) T.len (by decide +kernel) (pa_cons (pv 2) pa_nil)) pe_int) rfl)))) (pss_one (ps_ret pe_bl)) pss_nil) (pss_cons (ps_set (i := 5) sc_law_line_good.nd rfl (Or.inl rfl) (LZ.pe_listZip rfl rfl T.list rfl T.zip (pa_cons (pe_slice slLi (pv 2) (po_some pe_int) po_none) (pa_cons (pv 4) pa_nil)))) (pss_cons (ps_if (pt_cmpR (oNeP hr.units) (pe_lc (own := [("_law_word", 6), ("_law_sort", 7)]) (g := gTup K 2 (gCons (gName 6) (gCons (gName 7) gNil))) rfl sc_law_line_good.nd (pi_list (pv 5)) (blkOk_by (own := [("_law_word", 6), ("_law_sort", 7)]) (N := N_law_line_good) (sc := defScope s_law_line_good) (by decide +kernel)) (fun _ _ _ _ _ => pg_tup rfl (pgs_cons (pg_name (i := 6) sc_law_line_good.nd rfl (Or.inl rfl)) (pgs_cons (pg_name (i := 7) sc_law_line_good.nd rfl (Or.inl rfl)) pgs_nil))) (fun _ _ _ _ _ => (pts_one (pt_not (pt_val (pe_call G_law_word_good (hr.mono (by decide)) rfl T.g_law_word_good T.k_law_word_good T.b_law_word_good .nil pass0 (pa_cons (pv 6) (pa_cons (pv 7) (pa_cons (pv 1) pa_nil)))))))) (fun _ _ _ _ _ => (pv 6))) (pe_lst pa_nil) rfl) (pss_one (ps_ret pe_bl)) pss_nil) (pss_one (ps_ret (pe_or (pe_cmpR (oNeP hr.units) (pe_ix ixLi (pv 2) pe_int (fun _ _ => rfl)) pe_str rfl) (pe_one (pe_cmpR (oNeP hr.units) (pe_ix ixLi (pv 2) pe_int (fun _ _ => rfl)) (pe_ix ixLi (pv 2) pe_int (fun _ _ => rfl)) rfl)))))))))))))))), run_pure h (fun M x hx => ?_)⟩
  try dsimp only [cxOf, List.map_cons, List.map_nil]
  obtain ⟨l, n⟩ := x
  obtain ⟨hn, hl⟩ := hx
  dsimp only at hn hl ⊢
  walk_at "dl"
  refine rd_inL (es := (["else", "end"] : List PySem.Str).map PyData.str) okIn_strs ?_
  rw [any_strs]
  unfold lineG
  refine exB ⟨fun hc => ?_, fun hc => ?_⟩
  · walk_at "dl"
    rw [hc]
    rfl
  · rw [hc, Bool.false_or]
    have hne := split_ne l
    have hsl := split_len l
    walk_at "dl"
    refine md_split (by decide +kernel) (by omega) ?_
    generalize Txt.split l " " = ws0 at hne hsl ⊢
    cases ws0 with
    | nil => exact absurd rfl hne
    | cons w ws =>
      rw [List.length_cons] at hsl
      walk_at "dl"
      refine rd_repL (by decide) (by decide) (by decide) ?_
      walk_at "dl"
      refine ⟨by simp, sb_put ["inner", "half", "hold"] (by decide) (fun M' => ?_)⟩
      walk_at "dl"
      refine rd_repL (by decide) (by decide) (by decide) ?_
      walk_at "dl"
      refine rd_repL (by decide) (by decide) (by decide) ?_
      walk_at "dl"
      refine ⟨rfl, by simp, ?_⟩
      refine sb_put ["read", "again"] (by decide) (fun M' => ?_)
      walk_at "dl"
      refine ⟨rfl, by simp, ?_⟩
      refine sb_put1 (by decide) (fun M' => ?_)
      walk_at "dl"
      refine sb_doneE sortsF rfl ?_
      walk_at "dl"
      refine rd_eqP okEq_ss ?_
      rw [eqv_str]
      refine exB ⟨fun hc => ?_, fun hc => ?_⟩
      · have hw : w = "if" := of_decide_eq_true hc
        have e0 : lineW2 n (w :: ws) = lineIf n ws := if_pos hw
        rw [e0]
        walk_at "dl"
        refine rd_neP okEq_ii ?_
        rw [eqv_int]
        refine exB ⟨fun h4 => ?_, fun h4 => ?_⟩
        · have h3 : ws.length = 3 := by simp only [List.length_map, List.length_cons] at h4; have := h4; simp at this; omega
          obtain ⟨a1, b1, c1, rfl⟩ := len3 h3
          have e1 : lineIf n [a1, b1, c1] = (decide (c1 ∈ SEENS) && (wordG n a1 "name" && wordG n b1 "name")) := rfl
          rw [e1]
          walk_at "dl"
          refine rd_ninL (es := SEENS.map PyData.str) okIn_strs ?_
          rw [any_strs]
          cases hd : decide (c1 ∈ SEENS) with
          | false => walk_at "dl"; rfl
          | true =>
            walk_at "dl"
            refine ⟨(a1, "name", n), rfl, ⟨hn, .inl rfl⟩, fun r hr => ?_⟩; subst hr
            show ∃ c, PyData.bool (wordG n a1 "name") = _ ∧ _
            rw [Bool.true_and]
            cases h7 : wordG n a1 "name" with
            | true =>
              walk_at "dl"
              refine ⟨(b1, "name", n), rfl, ⟨hn, .inl rfl⟩, fun r hr => ?_⟩; subst hr
              rfl
            | false => walk_at "dl"; rfl
        · walk_at "dl"
          have h3 : ¬ ws.length = 3 := by simp only [List.length_map, List.length_cons] at h4; have := h4; simp at this; omega
          show _ = PyData.bool (lineIf n ws)
          match ws, h3 with
          | [], _ => rfl
          | [_], _ => rfl
          | [_, _], _ => rfl
          | [_, _, _], h => exact absurd rfl h
          | _ :: _ :: _ :: _ :: _, _ => rfl
      · have hw : ¬ w = "if" := of_decide_eq_false hc
        have e0 : lineW2 n (w :: ws) = (decide ((sortsL w).length ≠ 0 ∧ (sortsL w).length = ws.length) && ((ws.zip (sortsL w)).all (fun q => wordG n q.1 q.2) && lineEnd w ws)) := if_neg hw
        rw [e0]
        walk_at "dl"
        refine ed_dget2 rfl ?_
        walk_at "dl"
        rw [sortsF_eq]
        have hsplit : w = "split" → (sortsL w).length = 5 := fun h => by rw [h]; decide +kernel
        have hsorts := sortsL_mem w
        generalize sortsL w = ss at hsplit hsorts ⊢
        walk_at "dl"
        refine rd_eqP okEq_strsN ?_
        rw [eqv_nil]
        by_cases hss : ss = []
        · subst hss
          walk_at "dl"
          walk_at "k"
          rfl
        · have hemp : (ss.map PyData.str).isEmpty = false := by
            cases ss with
            | nil => exact absurd rfl hss
            | cons a b => rfl
          rw [hemp]
          walk_at "dl"
          refine rd_neP okEq_ii ?_
          rw [eqv_int]
          refine exB ⟨fun h5 => ?_, fun h5 => ?_⟩
          · have hlen : ¬ ss.length = ws.length := by intro h; simp [h] at h5
            walk_at "dl"
            rw [decide_eq_false (fun z => hlen z.2)]
            rfl
          · have hlen : ss.length = ws.length := by simp at h5; omega
            have hz : decide (ss.length ≠ 0 ∧ ss.length = ws.length) = true := decide_eq_true ⟨fun z => hss (List.eq_nil_of_length_eq_zero z), hlen⟩
            rw [hz]
            walk_at "dl"
            refine ⟨ws, ss.map PyData.str, by rw [List.map_cons, cut_tail], by rw [List.length_map, hlen], by omega, ?_⟩
            rw [zip_pairs]
            walk_at "dl"
            refine ed_lcP rfl (by decide) ?_
            walk_at "dl"
            have hzl : (ws.zip ss).length ≤ ws.length := by rw [List.length_zip]; omega
            refine ⟨by rw [List.length_map]; omega, fun x hx => ?_, badP n, fun y _ => y, fun y z hx M' => ?_, ?_⟩
            · obtain ⟨q, _, rfl⟩ := List.mem_map.mp hx
              exact ⟨_, _, rfl⟩
            · obtain ⟨q, hq, e9⟩ := List.mem_map.mp hx
              have hs := hsorts q.2 (List.of_mem_zip hq).2
              cases e9
              walk_at "dl"
              refine ⟨(q.1, q.2, n), rfl, ⟨hn, hs⟩, fun r hr => ?_⟩; subst hr
              refine exB ⟨rfl, fun _ => ?_⟩
              walk_at "dl"
              rfl
            · rw [bad_list]
              walk_at "dl"
              refine rd_neP okEq_strsN ?_
              rw [eqv_nil]
              cases hall : (ws.zip ss).all (fun q => wordG n q.1 q.2) with
              | true =>
                have e6 : (ws.zip ss).filter (fun q => !wordG n q.1 q.2) = [] := by
                  rw [List.filter_eq_nil_iff]
                  intro q hq
                  have := List.all_eq_true.mp hall q hq
                  rw [this]
                  decide
                rw [e6]
                walk_at "dl"
                walk_at "k"
                refine rd_neP okEq_ss ?_
                rw [eqv_str]
                by_cases h8 : w = "split"
                · have h9 := hsplit h8
                  match ws, hlen with
                  | [], hl => rw [h9] at hl; cases hl
                  | [_], hl => rw [h9] at hl; cases hl
                  | a1 :: b1 :: wr, hl =>
                    rw [decide_eq_true h8]
                    walk_at "dl"
                    refine rd_ixLi (by decide) (by show 1 < _; simp) ?_
                    walk_at "dl"
                    refine rd_ixLi (by decide) (by show 2 < _; simp) ?_
                    refine rd_neP (okEq_ss (i := a1) (j := b1)) ?_
                    show PyData.bool (!PyData.eqv (.str a1) (.str b1)) = PyData.bool (true && (true && (decide (¬ w = "split") || decide (¬ a1 = b1))))
                    rw [decide_eq_false (fun z => z h8), eqv_str]
                    by_cases h10 : a1 = b1
                    · rw [decide_eq_true h10, decide_eq_false (fun z => z h10)]; rfl
                    · rw [decide_eq_false h10, decide_eq_true h10]; rfl
                · rw [decide_eq_false h8]
                  walk_at "dl"
                  have e7 : lineEnd w ws = true := by
                    match ws with
                    | [] => rfl
                    | [_] => rfl
                    | _ :: _ :: _ => show (decide (¬ w = "split") || _) = true; rw [decide_eq_true h8]; rfl
                  rw [e7]
                  rfl
              | false =>
                have e6 : (((ws.zip ss).filter (fun q => !wordG n q.1 q.2)).map (·.1)).map PyData.str ≠ [] := by
                  intro z
                  rw [List.map_eq_nil_iff, List.map_eq_nil_iff, List.filter_eq_nil_iff] at z
                  have : (ws.zip ss).all (fun q => wordG n q.1 q.2) = true := List.all_eq_true.mpr fun q hq => by have := z q hq; simpa using this
                  rw [this] at hall; cases hall
                have e7 : ((((ws.zip ss).filter (fun q => !wordG n q.1 q.2)).map (·.1)).map PyData.str).isEmpty = false := by
                  cases h : (((ws.zip ss).filter (fun q => !wordG n q.1 q.2)).map (·.1)).map PyData.str with
                  | nil => exact absurd h e6
                  | cons a b => rfl
                rw [e7]
                walk_at "dl"
                rfl
end CL
set_option Elab.async false
set_option linter.all false
set_option maxRecDepth 100000
set_option maxHeartbeats 2000000
namespace CL
open PySem L2 DL
local macro_rules | `(tactic| walk_at "dl1") => `(tactic| first
  | ((with_reducible refine' ed_var ?hv ?_); (case hv => exact rfl))
  | with_reducible refine ed_int ?_
  | with_reducible refine ed_str ?_
  | with_reducible refine ed_bl ?_
  | with_reducible refine ed_non ?_
  | with_reducible refine ed_op ?_
  | with_reducible refine ea_cons ?_
  | with_reducible refine ea_nil ?_
  | with_reducible refine ed_isi ?_
  | with_reducible refine ed_cb ?_
  | with_reducible refine ed_zip ?_
  | with_reducible refine ed_sset ?_
  | with_reducible refine ed_rg1 ?_
  | with_reducible refine ed_rg2 ?_
  | with_reducible refine ed_call ?_
  | with_reducible refine ed_tup ?_
  | with_reducible refine ed_lst ?_
  | with_reducible refine ed_andV ?_
  | with_reducible refine ed_orV ?_
  | with_reducible refine ed_notV ?_
  | with_reducible refine ed_chain ?_
  | with_reducible refine ed_if ?_
  | with_reducible refine ed_un ?_
  | with_reducible refine ed_sl ?_
  | with_reducible refine ed_revL ?_
  | with_reducible refine ed_m1 ?_
  | with_reducible refine eo_no ?_
  | with_reducible refine eo_some ?_
  | with_reducible refine et_test ?_
  | with_reducible refine et_B ?_
  | with_reducible refine et_and ?_
  | with_reducible refine et_or ?_
  | with_reducible refine et_not ?_
  | with_reducible refine et_yes ?_
  | with_reducible refine sb_start (Nat.le_of_ble_eq_true rfl) (fun M' => ?_)
  | with_reducible refine sd_seq ?_
  | with_reducible refine ep_cons ?_
  | with_reducible refine ep_nil ?_
  | with_reducible refine sd_next ?_
  | with_reducible refine sd_set ?_
  | with_reducible refine sd_ret ?_
  | with_reducible refine sd_drop ?_
  | with_reducible refine sd_if ?_
  | with_reducible refine sd_par ?_
  | with_reducible refine sd_par3 ?_
  | with_reducible refine rd_addI ?_
  | with_reducible refine rd_subI ?_
  | with_reducible refine rd_ltI ?_
  | with_reducible refine rd_leI ?_
  | with_reducible refine rd_gtI ?_
  | with_reducible refine rd_geI ?_
  | with_reducible refine rd_isNo ?_
  | with_reducible refine rd_notNo ?_
  | with_reducible refine cd_lenL ?_
  | with_reducible refine cd_lenT ?_
  | with_reducible refine cd_abs ?_
  | with_reducible refine cd_intI ?_
  | with_reducible refine cd_intB ?_
  | with_reducible refine cd_strS ?_
  | with_reducible refine cd_listT ?_
  | with_reducible refine cd_tupleL ?_
  | with_reducible refine sd_L ?_
  | with_reducible refine sd_T ?_
  | with_reducible refine gd_name ?_
  | ((with_reducible refine' ed_lcL1y ?hv ?_); (case hv => exact rfl))
  | ((with_reducible refine' ed_lcT1y ?hv ?_); (case hv => exact rfl))
  | ((with_reducible refine' ed_lcL1 ?hv ?_); (case hv => exact rfl))
  | ((with_reducible refine' ed_lcT1 ?hv ?_); (case hv => exact rfl))
  | with_reducible refine exB ?_
  | with_reducible refine exI ?_
  | with_reducible refine exS ?_
  | with_reducible refine exL ?_
  | with_reducible refine exT ?_
  | with_reducible refine exLs ?_
  | with_reducible refine exIs ?_
  | with_reducible refine ex2 ?_
  | with_reducible refine ex3 ?_
  | with_reducible refine ln0 ?_
  | with_reducible refine ln1 ?_
  | with_reducible refine ln2 ?_
  | with_reducible refine ln3 ?_
  | with_reducible refine ln4 ?_
  | with_reducible refine ln5 ?_
  | with_reducible refine ln6 ?_
  | with_reducible refine ln7 ?_
  | with_reducible refine ln8 ?_
  | with_reducible refine ln9 ?_
  | with_reducible refine ln10 ?_
  | with_reducible refine ln11 ?_
  | with_reducible refine ln12 ?_
  | with_reducible refine cTT ?_
  | with_reducible refine cFT ?_
  | with_reducible refine cTF ?_
  | with_reducible refine cFF ?_
  | with_reducible refine nTT ?_
  | with_reducible refine nFT ?_
  | with_reducible refine nTF ?_
  | with_reducible refine nFF ?_
  | refine rd_ixT0 ?_
  | refine rd_ixL0 ?_
  | refine rd_ixT rfl ?_
  | refine rd_ixL rfl ?_)
local macro_rules | `(tactic| walk_at "dl") => `(tactic| repeat (walk_at "dl1"))
local macro_rules | `(tactic| walk_at "call1") => `(tactic| ((refine ⟨_, rfl, ?hcd, fun r hr => ?hcr⟩); (case hcd => first | assumption | rfl); (case hcr => (subst hr; try walk_at "dl"))))
local macro_rules | `(tactic| walk_at "and") => `(tactic| (refine ed_andE ?_; try walk_at "dl"))
local macro_rules | `(tactic| walk_at "k") => `(tactic| ((first | refine ct rfl ?_ | refine cf rfl ?_ | refine ct' rfl ?_ | refine cf' rfl ?_); try walk_at "dl"))
/-! ### the law's own judge of a whole text -/
structure WG where
  top : Nat
  body : Nat
  kind : PySem.Str
  reads : Nat
  steps : Nat
def wd0 (l : PySem.Str) : PySem.Str := (Txt.split l " ").headD ""
def wgStep (s : WG) (w : PySem.Str) : Option WG :=
  if w = "else" then (if s.kind = "if" then some { s with kind := "else", body := 0 } else none)
  else if w = "end" then (if s.kind = "else" then some { s with kind := "top" } else none)
  else if s.kind = "top" then
    (if w = "if" then some { s with steps := s.steps + 1, reads := s.reads + (if w = "read" then 1 else 0), top := s.top + 1, kind := "if", body := 0 } else some { s with steps := s.steps + 1, reads := s.reads + (if w = "read" then 1 else 0), top := s.top + 1 })
  else if 3 < s.body + 1 ∨ w = "if" then none else some { s with steps := s.steps + 1, reads := s.reads + (if w = "read" then 1 else 0), body := s.body + 1 }
def wgRun (s : WG) : List PySem.Str → Option WG
  | [] => some s
  | l :: ls => match wgStep s (wd0 l) with
    | some t => wgRun t ls
    | none => none
def wg0 : WG := ⟨0, 0, "top", 0, 0⟩
def wgEnd (s : WG) : Bool := decide (s.kind = "top") && (decide (s.top ≤ 6) && (decide (s.steps ≤ 10) && decide (s.reads ≤ 2)))
def wholeG (ls : List PySem.Str) : Bool := match wgRun wg0 ls with
  | some s => wgEnd s
  | none => false
theorem wgRun_app : ∀ (s : WG) (rs ts : List PySem.Str), wgRun s (rs ++ ts) = match wgRun s rs with
    | some t => wgRun t ts
    | none => none
  | _, [], _ => rfl
  | s, r :: rs, ts => by
    show (match wgStep s (wd0 r) with
      | some t => wgRun t (rs ++ ts)
      | none => none) = _
    cases h : wgStep s (wd0 r) with
    | none => simp [wgRun, h]
    | some t =>
      simp only [wgRun, h]
      exact wgRun_app t rs ts
theorem wg_none {ls : List PySem.Str} {i : Nat} {s : WG} {l : PySem.Str} (h : wgRun wg0 (ls.take i) = some s) (hl : ls[i]? = some l) (hs : wgStep s (wd0 l) = none) : wholeG ls = false := by
  have e : ls = ls.take i ++ (l :: ls.drop (i + 1)) := by
    have h1 := List.take_append_drop i ls
    obtain ⟨hi, hg⟩ := List.getElem?_eq_some_iff.mp hl
    rw [List.drop_eq_getElem_cons hi, hg] at h1
    exact h1.symm
  unfold wholeG
  rw [e, wgRun_app, h]
  simp only [wgRun, hs]
theorem wg_step {ls : List PySem.Str} {i : Nat} {s t : WG} {l : PySem.Str} (h : wgRun wg0 (ls.take i) = some s) (hl : ls[i]? = some l) (hs : wgStep s (wd0 l) = some t) : wgRun wg0 (ls.take (i + 1)) = some t := by
  rw [List.take_succ, hl, wgRun_app, h]
  show wgRun s [l] = some t
  simp only [wgRun, hs]
theorem wg_le {s t : WG} {w : PySem.Str} {i : Nat} (h : wgStep s w = some t) (b : s.top ≤ i ∧ s.body ≤ i ∧ s.reads ≤ i ∧ s.steps ≤ i) : t.top ≤ i + 1 ∧ t.body ≤ i + 1 ∧ t.reads ≤ i + 1 ∧ t.steps ≤ i + 1 := by
  obtain ⟨b1, b2, b3, b4⟩ := b
  have hr : s.reads + (if w = "read" then 1 else 0) ≤ i + 1 := by split <;> omega
  unfold wgStep at h
  repeat' split at h
  all_goals first
    | (cases h; done)
    | (cases h; exact ⟨by first | omega | (show s.top + 1 ≤ i + 1; omega) | (show s.top ≤ i + 1; omega), by first | omega | (show s.body + 1 ≤ i + 1; omega) | (show s.body ≤ i + 1; omega) | exact Nat.zero_le _, by first | exact hr | (show s.reads + 1 ≤ i + 1; omega) | (show s.reads ≤ i + 1; omega), by first | (show s.steps + 1 ≤ i + 1; omega) | (show s.steps ≤ i + 1; omega)⟩)
def rhoW (ls : List PySem.Str) (s : WG) (e1 e2 : Ent) : Rho := [.dat (.list (ls.map PyData.str)), .dat (.int s.top), .dat (.int s.body), .dat (.str s.kind), .dat (.int s.reads), .dat (.int s.steps), e1, e2]
abbrev spWholeGood (K : PySem.W.Frag) : Sp := spP K (fun ls : List PySem.Str => [.list (ls.map PyData.str)]) (fun ls => ls.length ≤ 100000 ∧ ∀ l ∈ ls, l.length ≤ 50000) (fun ls r => r = .bool (wholeG ls))
theorem ok_law_whole_good {P : Program} {w : World} {K : PySem.W.Frag} {mg : PySem.Str → Option Value} {base : Heap} {a : Ads} {d : Fds} (T : Txt K mg a d) : FnOk P w K mg base CX0 1 a.law_whole_good d.law_whole_good P_law_whole_good (spWholeGood K) := by
  refine T.F_law_whole_good.ok sc_law_whole_good (fun vs H Q E h => ?_) (fun cdv A outer s H vs Q E hr h => ?_)
  · obtain ⟨vol, x, _, ha, _⟩ := h
    have e := ha.length
    rw [e]
    rfl
  refine ⟨_, (pss_cons (ps_asg (pe_tup (pa_cons pe_int (pa_cons pe_int (pa_cons pe_str (pa_cons pe_int (pa_cons pe_int pa_nil)))))) (pg_tup rfl (pgs_cons (pg_name (i := 1) sc_law_whole_good.nd rfl (Or.inl rfl)) (pgs_cons (pg_name (i := 2) sc_law_whole_good.nd rfl (Or.inl rfl)) (pgs_cons (pg_name (i := 3) sc_law_whole_good.nd rfl (Or.inl rfl)) (pgs_cons (pg_name (i := 4) sc_law_whole_good.nd rfl (Or.inl rfl)) (pgs_cons (pg_name (i := 5) sc_law_whole_good.nd rfl (Or.inl rfl)) pgs_nil))))))) (pss_cons (ps_for PassesOwn.never rfl (pi_list (pv 0)) (pg_name (i := 6) sc_law_whole_good.nd rfl (Or.inl rfl)) (pss_cons (ps_set (i := 7) sc_law_whole_good.nd rfl (Or.inl rfl) (pe_ix ixLi (pe_m1 F.slot_str_split F.type_str_split mSplit (pv 6) pe_str) pe_int (fun _ _ => rfl))) (pss_one (ps_if (pt_cmpR (oEqP hr.units) (pv 7) pe_str rfl) (pss_cons (ps_if (pt_cmpR (oNeP hr.units) (pv 3) pe_str rfl) (pss_one (ps_ret pe_bl)) pss_nil) (pss_one (ps_asg (pe_tup (pa_cons pe_str (pa_cons pe_int pa_nil))) (pg_tup rfl (pgs_cons (pg_name (i := 3) sc_law_whole_good.nd rfl (Or.inl rfl)) (pgs_cons (pg_name (i := 2) sc_law_whole_good.nd rfl (Or.inl rfl)) pgs_nil)))))) (pss_one (ps_if (pt_cmpR (oEqP hr.units) (pv 7) pe_str rfl) (pss_cons (ps_if (pt_cmpR (oNeP hr.units) (pv 3) pe_str rfl) (pss_one (ps_ret pe_bl)) pss_nil) (pss_one (ps_set (i := 3) sc_law_whole_good.nd rfl (Or.inl rfl) pe_str))) (pss_cons (ps_par rfl sc_law_whole_good.nd (i := 5) (j := 4) rfl rfl (by decide) rfl rfl (pa_cons (pe_op oAddI (pv 5) pe_int) (pa_cons (pe_op oAddI (pv 4) (pe_callTy cInt (by rfl) T.int (by decide +kernel) (pa_cons (pe_cmpR (oEqP hr.units) (pv 7) pe_str rfl) pa_nil))) pa_nil)) rfl) (pss_one (ps_if (pt_cmpR (oEqP hr.units) (pv 3) pe_str rfl) (pss_cons (ps_set (i := 1) sc_law_whole_good.nd rfl (Or.inl rfl) (pe_op oAddI (pv 1) pe_int)) (pss_one (ps_if (pt_cmpR (oEqP hr.units) (pv 7) pe_str rfl) (pss_one (ps_asg (pe_tup (pa_cons pe_str (pa_cons pe_int pa_nil))) (pg_tup rfl (pgs_cons (pg_name (i := 3) sc_law_whole_good.nd rfl (Or.inl rfl)) (pgs_cons (pg_name (i := 2) sc_law_whole_good.nd rfl (Or.inl rfl)) pgs_nil))))) pss_nil))) (pss_cons (ps_set (i := 2) sc_law_whole_good.nd rfl (Or.inl rfl) (pe_op oAddI (pv 2) pe_int)) (pss_one (ps_if (PW.pt (pw_or (pt_cmpR oGtI (pv 2) pe_int rfl) (pw_or1 (pt_cmpR (oEqP hr.units) (pv 7) pe_str rfl)))) (pss_one (ps_ret pe_bl)) pss_nil)))))))))))) (pss_one (ps_ret (pe_and (pe_cmpR (oEqP hr.units) (pv 3) pe_str rfl) (pe_and (pe_cmpR oLeI (pv 1) pe_int rfl) (pe_and (pe_cmpR oLeI (pv 5) pe_int rfl) (pe_one (pe_cmpR oLeI (pv 4) pe_int rfl))))))))), run_pure h (fun M x hx => ?_)⟩
  try dsimp only [cxOf, List.map_cons, List.map_nil]
  obtain ⟨hn, hl⟩ := hx
  refine sd_seq ?_
  refine sd_asg ?_
  walk_at "dl"
  refine gd_tup rfl (gsd_cons (gd_name (gsd_cons (gd_name (gsd_cons (gd_name (gsd_cons (gd_name (gsd_cons (gd_name (gsd_nil ?_)))))))))))
  refine sd_seq ?_
  refine sd_forL ?_
  walk_at "dl"
  refine ⟨fun i ρ' => ∃ s e1 e2, ρ' = rhoW x s e1 e2 ∧ wgRun wg0 (x.take i) = some s ∧ (s.top ≤ i ∧ s.body ≤ i ∧ s.reads ≤ i ∧ s.steps ≤ i), ⟨wg0, _, _, rfl, rfl, Nat.le_refl _, Nat.le_refl _, Nat.le_refl _, Nat.le_refl _⟩, fun i y ρ' hi hI => ?_, fun ρ' hI => ?_⟩
  · obtain ⟨s, e1, e2, rfl, hrun, bd⟩ := hI
    obtain ⟨l, hll, rfl⟩ := getElem_map hi
    have hml := List.mem_of_getElem? hll
    have hil : i < x.length := (List.getElem?_eq_some_iff.mp hll).1
    have hlen := hl l hml
    refine gd_name ?_
    refine sd_seq ?_
    refine sd_set ?_
    refine EvD.mono (Φ := fun d => d = .str (wd0 l)) ?_ (fun d hd => ?_)
    · walk_at "dl"
      refine md_split (by decide +kernel) (by omega) ?_
      have hne := split_ne l
      unfold wd0
      generalize Txt.split l " " = ws at hne ⊢
      cases ws with
      | nil => exact absurd rfl hne
      | cons w ws => walk_at "dl"; rfl
    subst hd
    have bd' : s.top ≤ 100000 ∧ s.body ≤ 100000 ∧ s.reads ≤ 100000 ∧ s.steps ≤ 100000 := by omega
    have hstep : ∀ t, wgStep s (wd0 l) = some t → ∃ s2 e1 e2, rhoW x t (.dat (.str l)) (.dat (.str (wd0 l))) = rhoW x s2 e1 e2 ∧ wgRun wg0 (x.take (i + 1)) = some s2 ∧ (s2.top ≤ i + 1 ∧ s2.body ≤ i + 1 ∧ s2.reads ≤ i + 1 ∧ s2.steps ≤ i + 1) :=
      fun t ht => ⟨t, _, _, rfl, wg_step hrun hll ht, wg_le ht bd⟩
    have hnone : wgStep s (wd0 l) = none → wholeG x = false := wg_none hrun hll
    generalize wd0 l = w at hstep hnone ⊢
    unfold wgStep at hstep hnone
    have hrd : (s.reads : Int) + (if decide (w = "read") = true then 1 else 0) = ((s.reads + (if w = "read" then 1 else 0) : Nat) : Int) := by
      by_cases g : w = "read"
      · rw [decide_eq_true g, if_pos rfl, if_pos g]; rfl
      · rw [decide_eq_false g, if_neg Bool.false_ne_true, if_neg g]; rfl
    walk_at "dl"
    refine rd_eqP okEq_ss ?_
    rw [eqv_str]
    refine exB ⟨fun h1 => ?_, fun h1 => ?_⟩
    · have g1 : w = "else" := of_decide_eq_true h1
      rw [if_pos g1] at hstep hnone
      walk_at "dl"
      refine rd_neP okEq_ss ?_
      rw [eqv_str]
      by_cases g2 : s.kind = "if"
      · rw [if_pos g2] at hstep
        rw [decide_eq_true g2]
        walk_at "dl"
        refine sd_asg ?_
        walk_at "dl"
        refine gd_tup rfl (gsd_cons (gd_name (gsd_cons (gd_name (gsd_nil ?_)))))
        exact hstep _ rfl
      · rw [if_neg g2] at hnone
        rw [decide_eq_false g2]
        walk_at "dl"
        rw [hnone rfl]
    · have g1 : ¬ w = "else" := of_decide_eq_false h1
      rw [if_neg g1] at hstep hnone
      walk_at "dl"
      refine rd_eqP okEq_ss ?_
      rw [eqv_str]
      refine exB ⟨fun h2 => ?_, fun h2 => ?_⟩
      · have g3 : w = "end" := of_decide_eq_true h2
        rw [if_pos g3] at hstep hnone
        walk_at "dl"
        refine rd_neP okEq_ss ?_
        rw [eqv_str]
        by_cases g2 : s.kind = "else"
        · rw [if_pos g2] at hstep
          rw [decide_eq_true g2]
          walk_at "dl"
          exact hstep _ rfl
        · rw [if_neg g2] at hnone
          rw [decide_eq_false g2]
          walk_at "dl"
          rw [hnone rfl]
      · have g3 : ¬ w = "end" := of_decide_eq_false h2
        rw [if_neg g3] at hstep hnone
        walk_at "dl"
        refine rd_eqP okEq_ss ?_
        rw [eqv_str]
        walk_at "dl"
        rw [hrd]
        refine rd_eqP okEq_ss ?_
        rw [eqv_str]
        by_cases g2 : s.kind = "top"
        · rw [if_pos g2] at hstep hnone
          rw [decide_eq_true g2]
          walk_at "dl"
          refine rd_eqP okEq_ss ?_
          rw [eqv_str]
          by_cases g4 : w = "if"
          · rw [if_pos g4] at hstep
            rw [decide_eq_true g4]
            walk_at "dl"
            refine sd_asg ?_
            walk_at "dl"
            refine gd_tup rfl (gsd_cons (gd_name (gsd_cons (gd_name (gsd_nil ?_)))))
            exact hstep _ rfl
          · rw [if_neg g4] at hstep
            rw [decide_eq_false g4]
            walk_at "dl"
            exact hstep _ rfl
        · rw [if_neg g2] at hstep hnone
          rw [decide_eq_false g2]
          walk_at "dl"
          by_cases g5 : 3 < s.body + 1
          · rw [if_pos (.inl g5)] at hnone
            refine ⟨fun z => ?_, fun z => ?_⟩
            · have := of_decide_eq_false z
              omega
            · walk_at "k"
              rw [hnone rfl]
          · have e5 : decide ((3 : Int) < (s.body : Int) + 1) = false := decide_eq_false (by omega)
            refine ⟨fun z => ?_, fun z => ?_⟩
            · walk_at "dl"
              refine rd_eqP okEq_ss ?_
              rw [eqv_str]
              by_cases g4 : w = "if"
              · rw [if_pos (.inr g4)] at hnone
                rw [decide_eq_true g4]
                walk_at "dl"
                rw [hnone rfl]
              · rw [if_neg (fun h => h.elim g5 g4)] at hstep
                rw [decide_eq_false g4]
                walk_at "dl"
                exact hstep _ rfl
            · rw [e5] at z; cases z
  · obtain ⟨s, e1, e2, rfl, hrun, bd⟩ := hI
    rw [List.length_map, List.take_length] at hrun
    have hw : wholeG x = wgEnd s := by
      unfold wholeG
      rw [hrun]
    rw [hw]
    have c1 : decide ((s.top : Int) ≤ 6) = decide (s.top ≤ 6) := decide_eq_decide.mpr (by omega)
    have c2 : decide ((s.steps : Int) ≤ 10) = decide (s.steps ≤ 10) := decide_eq_decide.mpr (by omega)
    have c3 : decide ((s.reads : Int) ≤ 2) = decide (s.reads ≤ 2) := decide_eq_decide.mpr (by omega)
    unfold wgEnd
    rw [← c1, ← c2, ← c3]
    walk_at "dl"
    refine rd_eqP okEq_ss ?_
    rw [eqv_str]
    cases decide (s.kind = "top") with
    | false => walk_at "dl"; rfl
    | true =>
      walk_at "dl"
      refine ⟨fun h6 => ?_, fun h6 => ?_⟩
      · rw [h6]
        walk_at "dl"
        refine ⟨fun h7 => ?_, fun h7 => ?_⟩
        · rw [h7]
          walk_at "dl"
          rfl
        · rw [h7]; rfl
      · rw [h6]; rfl
end CL
set_option Elab.async false
set_option linter.all false
set_option maxRecDepth 100000
set_option maxHeartbeats 2000000
namespace CL
open PySem L2 DL
local macro_rules | `(tactic| walk_at "dl1") => `(tactic| first
  | ((with_reducible refine' ed_var ?hv ?_); (case hv => exact rfl))
  | with_reducible refine ed_int ?_
  | with_reducible refine ed_str ?_
  | with_reducible refine ed_bl ?_
  | with_reducible refine ed_non ?_
  | with_reducible refine ed_op ?_
  | with_reducible refine ea_cons ?_
  | with_reducible refine ea_nil ?_
  | with_reducible refine ed_isi ?_
  | with_reducible refine ed_cb ?_
  | with_reducible refine ed_zip ?_
  | with_reducible refine ed_sset ?_
  | with_reducible refine ed_rg1 ?_
  | with_reducible refine ed_rg2 ?_
  | with_reducible refine ed_call ?_
  | with_reducible refine ed_tup ?_
  | with_reducible refine ed_lst ?_
  | with_reducible refine ed_andV ?_
  | with_reducible refine ed_orV ?_
  | with_reducible refine ed_notV ?_
  | with_reducible refine ed_chain ?_
  | with_reducible refine ed_if ?_
  | with_reducible refine ed_un ?_
  | with_reducible refine ed_sl ?_
  | with_reducible refine ed_revL ?_
  | with_reducible refine ed_m1 ?_
  | with_reducible refine eo_no ?_
  | with_reducible refine eo_some ?_
  | with_reducible refine et_test ?_
  | with_reducible refine et_B ?_
  | with_reducible refine et_and ?_
  | with_reducible refine et_or ?_
  | with_reducible refine et_not ?_
  | with_reducible refine et_yes ?_
  | with_reducible refine sb_start (Nat.le_of_ble_eq_true rfl) (fun M' => ?_)
  | with_reducible refine sd_seq ?_
  | with_reducible refine ep_cons ?_
  | with_reducible refine ep_nil ?_
  | with_reducible refine sd_next ?_
  | with_reducible refine sd_set ?_
  | with_reducible refine sd_ret ?_
  | with_reducible refine sd_drop ?_
  | with_reducible refine sd_if ?_
  | with_reducible refine sd_par ?_
  | with_reducible refine sd_par3 ?_
  | with_reducible refine rd_addI ?_
  | with_reducible refine rd_subI ?_
  | with_reducible refine rd_ltI ?_
  | with_reducible refine rd_leI ?_
  | with_reducible refine rd_gtI ?_
  | with_reducible refine rd_geI ?_
  | with_reducible refine rd_isNo ?_
  | with_reducible refine rd_notNo ?_
  | with_reducible refine cd_lenL ?_
  | with_reducible refine cd_lenT ?_
  | with_reducible refine cd_abs ?_
  | with_reducible refine cd_intI ?_
  | with_reducible refine cd_intB ?_
  | with_reducible refine cd_strS ?_
  | with_reducible refine cd_listT ?_
  | with_reducible refine cd_tupleL ?_
  | with_reducible refine sd_L ?_
  | with_reducible refine sd_T ?_
  | with_reducible refine gd_name ?_
  | ((with_reducible refine' ed_lcL1y ?hv ?_); (case hv => exact rfl))
  | ((with_reducible refine' ed_lcT1y ?hv ?_); (case hv => exact rfl))
  | ((with_reducible refine' ed_lcL1 ?hv ?_); (case hv => exact rfl))
  | ((with_reducible refine' ed_lcT1 ?hv ?_); (case hv => exact rfl))
  | with_reducible refine exB ?_
  | with_reducible refine exI ?_
  | with_reducible refine exS ?_
  | with_reducible refine exL ?_
  | with_reducible refine exT ?_
  | with_reducible refine exLs ?_
  | with_reducible refine exIs ?_
  | with_reducible refine ex2 ?_
  | with_reducible refine ex3 ?_
  | with_reducible refine ln0 ?_
  | with_reducible refine ln1 ?_
  | with_reducible refine ln2 ?_
  | with_reducible refine ln3 ?_
  | with_reducible refine ln4 ?_
  | with_reducible refine ln5 ?_
  | with_reducible refine ln6 ?_
  | with_reducible refine ln7 ?_
  | with_reducible refine ln8 ?_
  | with_reducible refine ln9 ?_
  | with_reducible refine ln10 ?_
  | with_reducible refine ln11 ?_
  | with_reducible refine ln12 ?_
  | with_reducible refine cTT ?_
  | with_reducible refine cFT ?_
  | with_reducible refine cTF ?_
  | with_reducible refine cFF ?_
  | with_reducible refine nTT ?_
  | with_reducible refine nFT ?_
  | with_reducible refine nTF ?_
  | with_reducible refine nFF ?_
  | refine rd_ixT0 ?_
  | refine rd_ixL0 ?_
  | refine rd_ixT rfl ?_
  | refine rd_ixL rfl ?_)
local macro_rules | `(tactic| walk_at "dl") => `(tactic| repeat (walk_at "dl1"))
local macro_rules | `(tactic| walk_at "call1") => `(tactic| ((refine ⟨_, rfl, ?hcd, fun r hr => ?hcr⟩); (case hcd => first | assumption | rfl); (case hcr => (subst hr; try walk_at "dl"))))
local macro_rules | `(tactic| walk_at "and") => `(tactic| (refine ed_andE ?_; try walk_at "dl"))
local macro_rules | `(tactic| walk_at "k") => `(tactic| ((first | refine ct rfl ?_ | refine cf rfl ?_ | refine ct' rfl ?_ | refine cf' rfl ?_); try walk_at "dl"))
/-! ### what is due -/
def dueL (n : Nat) (ls : List PySem.Str) : PyData := match ls.findIdx? (fun l => !lineG n l) with
  | some i => .int (i + 1)
  | none => if wholeG ls = true then .none else .int (ls.length + 1)
abbrev spDue (K : PySem.W.Frag) : Sp := spP K (fun x : PySem.Str × Nat => [.str x.1, .int x.2]) (fun x => x.1.length ≤ 50000 ∧ x.2 ≤ 2) (fun x r => r = dueL x.2 (textLines x.1))
theorem ok_law_due {P : Program} {w : World} {K : PySem.W.Frag} {mg : PySem.Str → Option Value} {base : Heap} {a : Ads} {d : Fds} (T : Txt K mg a d) : FnOk P w K mg base CX0 3 a.law_due d.law_due P_law_due (spDue K) := by
  have G_law_whole_good := ok_law_whole_good (P := P) (w := w) (base := base) T
  have G_law_line_good := ok_law_line_good (P := P) (w := w) (base := base) T
  refine T.F_law_due.ok sc_law_due (fun vs H Q E h => ?_) (fun cdv A outer s H vs Q E hr h => ?_)
  · obtain ⟨vol, x, _, ha, _⟩ := h
    have e := ha.length
    rw [e]
    rfl
  refine ⟨_, (pss_cons (ps_if (pt_not (pt_val (pe_callB call_isi (by rfl) T.isinstance (by decide +kernel) (pa_cons (pv 0) (pa_cons (pe_bltn (v := .ty "str") (by rfl) T.str (by decide +kernel) rfl) pa_nil))))) (pss_one (ps_ret pe_int)) pss_nil) (pss_cons (ps_set (i := 2) sc_law_due.nd rfl (Or.inl rfl) (pe_ifExp (pt_cmpR (oNeP hr.units) (pv 0) pe_str rfl) (pe_m1 F.slot_str_split F.type_str_split mSplit (pv 0) pe_str) (pe_lst pa_nil))) (pss_cons (ps_for PassesOwn.never rfl (pi_range1 rfl T.range (pa_cons (pe_callB cLen (by rfl) T.len (by decide +kernel) (pa_cons (pv 2) pa_nil)) pa_nil)) (pg_name (i := 3) sc_law_due.nd rfl (Or.inl rfl)) (pss_one (ps_if (pt_not (pt_val (pe_call G_law_line_good (hr.mono (by decide)) rfl T.g_law_line_good T.k_law_line_good T.b_law_line_good .nil pass0 (pa_cons (pe_ix ixLi (pv 2) (pv 3) (fun _ _ => rfl)) (pa_cons (pv 1) pa_nil))))) (pss_one (ps_ret (pe_op oAddI (pv 3) pe_int))) pss_nil))) (pss_one (ps_ret (pe_ifExp (pt_val (pe_call G_law_whole_good (hr.mono (by decide)) rfl T.g_law_whole_good T.k_law_whole_good T.b_law_whole_good .nil pass0 (pa_cons (pv 2) pa_nil))) pe_non (pe_op oAddI (pe_callB cLen (by rfl) T.len (by decide +kernel) (pa_cons (pv 2) pa_nil)) pe_int))))))), run_pure h (fun M x hx => ?_)⟩
  try dsimp only [cxOf, List.map_cons, List.map_nil]
  obtain ⟨t, n⟩ := x
  obtain ⟨ht, hn⟩ := hx
  dsimp only at ht hn ⊢
  have hlen : (textLines t).length ≤ 50001 := by
    unfold textLines
    split
    · exact Nat.zero_le _
    · have := split_lenY (y := "\n") (by rw [nl_tl]; simp) nl_all t
      omega
  have hall : ∀ l ∈ textLines t, l.length ≤ 50000 := by
    unfold textLines
    split
    · intro l hl; cases hl
    · intro l hl
      have := split_mem (y := "\n") (by rw [nl_tl]; simp) nl_all t l hl
      omega
  walk_at "dl"
  refine ⟨_, kit_str rfl, ?_⟩
  refine exB (cf rfl ?_)
  refine sd_next ?_
  refine sd_seq ?_
  refine sd_set ?_
  refine EvD.mono (Φ := fun d => d = .list ((textLines t).map PyData.str)) ?_ (fun d hd => ?_)
  · walk_at "dl"
    refine rd_neP okEq_ss ?_
    rw [eqv_str]
    refine exB ⟨fun hc => ?_, fun hc => ?_⟩
    · have h0 : ¬ t = "" := by simpa using hc
      walk_at "dl"
      refine md_split (by decide +kernel) (by omega) ?_
      unfold textLines
      rw [if_neg h0]
    · have h0 : t = "" := by simpa using hc
      walk_at "dl"
      unfold textLines
      rw [if_pos h0]
      rfl
  subst hd
  generalize textLines t = ls at hlen hall ⊢
  walk_at "dl"
  refine sd_forR ?_
  walk_at "dl"
  refine ⟨by rw [List.length_map]; omega, fun i ρ' => ∃ e3, ρ' = [.dat (.str t), .dat (.int n), .dat (.list (ls.map PyData.str)), e3] ∧ ∀ k l, k < i → ls[k]? = some l → lineG n l = true, ⟨_, rfl, fun k l hk => absurd hk (Nat.not_lt_zero _)⟩, fun i ρ' hi hI => ?_, fun ρ' hI => ?_⟩
  · obtain ⟨e3, rfl, hgood⟩ := hI
    rw [List.length_map] at hi
    have hil : i < ls.length := by omega
    have hli : ls[i]? = some ls[i] := List.getElem?_eq_getElem hil
    walk_at "dl"
    refine rd_ixL (d := .str ls[i]) ?_ ?_
    · have := atI_nat (xs := ls.map PyData.str) (j := i) (v := .str ls[i]) (by rw [List.getElem?_map, hli]; rfl)
      exact this
    walk_at "dl"
    refine ⟨(ls[i], n), rfl, ⟨hn, hall _ (List.getElem_mem hil)⟩, fun r hr => ?_⟩; subst hr
    refine exB ?_
    cases hg : lineG n ls[i] with
    | false =>
      walk_at "dl"
      have e : ls.findIdx? (fun l => !lineG n l) = some i := findIdx_at hli (by show (!lineG n ls[i]) = true; rw [hg]; rfl) fun k y hk hy => by
        show (!lineG n y) = false
        rw [hgood k y hk hy]; rfl
      unfold dueL
      rw [e]
    | true =>
      walk_at "dl"
      refine ⟨_, rfl, fun k l hk hl => ?_⟩
      by_cases hki : k = i
      · subst hki
        rw [hli] at hl
        cases hl
        exact hg
      · exact hgood k l (by omega) hl
  · obtain ⟨e3, rfl, hgood⟩ := hI
    have hg2 : ∀ k l, k < ls.length → ls[k]? = some l → lineG n l = true := fun k l hk => hgood k l (by rw [List.length_map, Int.toNat_natCast]; exact hk)
    have e : ls.findIdx? (fun l => !lineG n l) = none := findIdx_no fun k y hk hy => by
      show (!lineG n y) = false
      rw [hg2 k y hk hy]; rfl
    walk_at "dl"
    refine ⟨ls, rfl, ⟨by omega, hall⟩, fun r hr => ?_⟩; subst hr
    refine exB ?_
    unfold dueL
    rw [e]
    dsimp only
    cases wholeG ls with
    | true => walk_at "dl"; rfl
    | false =>
      walk_at "dl"
      rw [List.length_map]
      rfl
end CL
set_option Elab.async false
set_option linter.all false
set_option maxRecDepth 100000
set_option maxHeartbeats 2000000
namespace CL
open PySem L2 DL
local macro_rules | `(tactic| walk_at "dl1") => `(tactic| first
  | ((with_reducible refine' ed_var ?hv ?_); (case hv => exact rfl))
  | with_reducible refine ed_int ?_
  | with_reducible refine ed_str ?_
  | with_reducible refine ed_bl ?_
  | with_reducible refine ed_non ?_
  | ((with_reducible refine' ed_jar0 ?hj ?_); (case hj => exact rfl); intro x hx)
  | ((with_reducible refine' ed_jar1 ?hj ?_); (case hj => exact rfl); intro x hx hx2)
  | ((with_reducible refine' ed_callJ ?hj ?_); (case hj => exact rfl))
  | ((with_reducible refine' sd_jset0 ?hj ?_); (case hj => exact rfl))
  | ((with_reducible refine' sd_jset1 ?hj ?_); (case hj => exact rfl))
  | with_reducible refine ed_op ?_
  | with_reducible refine ea_cons ?_
  | with_reducible refine ea_nil ?_
  | with_reducible refine ed_isi ?_
  | with_reducible refine ed_cb ?_
  | with_reducible refine ed_zip ?_
  | with_reducible refine ed_sset ?_
  | with_reducible refine ed_rg1 ?_
  | with_reducible refine ed_rg2 ?_
  | with_reducible refine ed_call ?_
  | with_reducible refine ed_tup ?_
  | with_reducible refine ed_lst ?_
  | with_reducible refine ed_andV ?_
  | with_reducible refine ed_orV ?_
  | with_reducible refine ed_notV ?_
  | with_reducible refine ed_chain ?_
  | with_reducible refine ed_if ?_
  | with_reducible refine ed_un ?_
  | with_reducible refine ed_sl ?_
  | with_reducible refine ed_revL ?_
  | with_reducible refine ed_m1 ?_
  | with_reducible refine eo_no ?_
  | with_reducible refine eo_some ?_
  | with_reducible refine et_test ?_
  | with_reducible refine et_B ?_
  | with_reducible refine et_and ?_
  | with_reducible refine et_or ?_
  | with_reducible refine et_not ?_
  | with_reducible refine et_yes ?_
  | with_reducible refine sb_start (Nat.le_of_ble_eq_true rfl) (fun M' => ?_)
  | with_reducible refine sd_seq ?_
  | with_reducible refine ep_cons ?_
  | with_reducible refine ep_nil ?_
  | with_reducible refine sd_next ?_
  | with_reducible refine sd_set ?_
  | with_reducible refine sd_ret ?_
  | with_reducible refine sd_drop ?_
  | with_reducible refine sd_if ?_
  | with_reducible refine sd_par ?_
  | with_reducible refine sd_par3 ?_
  | with_reducible refine rd_addI ?_
  | with_reducible refine rd_subI ?_
  | with_reducible refine rd_ltI ?_
  | with_reducible refine rd_leI ?_
  | with_reducible refine rd_gtI ?_
  | with_reducible refine rd_geI ?_
  | with_reducible refine rd_isNo ?_
  | with_reducible refine rd_notNo ?_
  | with_reducible refine cd_lenL ?_
  | with_reducible refine cd_lenT ?_
  | with_reducible refine cd_abs ?_
  | with_reducible refine cd_intI ?_
  | with_reducible refine cd_intB ?_
  | with_reducible refine cd_strS ?_
  | with_reducible refine cd_listT ?_
  | with_reducible refine cd_tupleL ?_
  | with_reducible refine sd_L ?_
  | with_reducible refine sd_T ?_
  | with_reducible refine gd_name ?_
  | ((with_reducible refine' ed_lcL1y ?hv ?_); (case hv => exact rfl))
  | ((with_reducible refine' ed_lcT1y ?hv ?_); (case hv => exact rfl))
  | ((with_reducible refine' ed_lcL1 ?hv ?_); (case hv => exact rfl))
  | ((with_reducible refine' ed_lcT1 ?hv ?_); (case hv => exact rfl))
  | with_reducible refine exB ?_
  | with_reducible refine exI ?_
  | with_reducible refine exS ?_
  | with_reducible refine exL ?_
  | with_reducible refine exT ?_
  | with_reducible refine exLs ?_
  | with_reducible refine exIs ?_
  | with_reducible refine ex2 ?_
  | with_reducible refine ex3 ?_
  | with_reducible refine ln0 ?_
  | with_reducible refine ln1 ?_
  | with_reducible refine ln2 ?_
  | with_reducible refine ln3 ?_
  | with_reducible refine ln4 ?_
  | with_reducible refine ln5 ?_
  | with_reducible refine ln6 ?_
  | with_reducible refine ln7 ?_
  | with_reducible refine ln8 ?_
  | with_reducible refine ln9 ?_
  | with_reducible refine ln10 ?_
  | with_reducible refine ln11 ?_
  | with_reducible refine ln12 ?_
  | with_reducible refine cTT ?_
  | with_reducible refine cFT ?_
  | with_reducible refine cTF ?_
  | with_reducible refine cFF ?_
  | with_reducible refine nTT ?_
  | with_reducible refine nFT ?_
  | with_reducible refine nTF ?_
  | with_reducible refine nFF ?_
  | refine rd_ixT0 ?_
  | refine rd_ixL0 ?_
  | refine rd_ixT rfl ?_
  | refine rd_ixL rfl ?_)
local macro_rules | `(tactic| walk_at "dl") => `(tactic| repeat (walk_at "dl1"))
local macro_rules | `(tactic| walk_at "call1") => `(tactic| ((refine ⟨_, rfl, ?hcd, fun r hr => ?hcr⟩); (case hcd => first | assumption | rfl); (case hcr => (subst hr; try walk_at "dl"))))
local macro_rules | `(tactic| walk_at "and") => `(tactic| (refine ed_andE ?_; try walk_at "dl"))
local macro_rules | `(tactic| walk_at "k") => `(tactic| ((first | refine ct rfl ?_ | refine cf rfl ?_ | refine ct' rfl ?_ | refine cf' rfl ?_); try walk_at "dl"))
/-! ### draws -/
abbrev spDip (K : PySem.W.Frag) : Sp := spJ K (fun m : Int => [.int m]) (fun m => 1 ≤ m ∧ m ≤ 1000000) (fun m r => ∃ k : Int, r = .int k ∧ 0 ≤ k ∧ k < m)
theorem cdivN {i j : Int} (h : 0 < j) (h2 : j < 1073741824) : CDivN i j := ⟨by omega, by omega⟩
theorem cmul1 {i j : Int} (h0 : 0 ≤ i) (h1 : i ≤ 100000000000) : CMul i j := .inl ⟨by omega, by omega⟩
theorem ok_law_dip {P : Program} {w : World} {K : PySem.W.Frag} {mg : PySem.Str → Option Value} {base : Heap} {a : Ads} {d : Fds} (T : Txt K mg a d) : FnOk P w K mg base CX0 1 a.law_dip d.law_dip P_law_dip (spDip K) := by
  refine T.F_law_dip.ok sc_law_dip (fun vs H Q E h => ?_) (fun cdv A outer s H vs Q E hr h => ?_)
  · obtain ⟨j, x, ws, rfl, _, ha, _⟩ := h
    have e := ha.length
    rw [List.length_cons, e]
    rfl
  refine ⟨_, (pss_cons (ps_if (pt_cmpR oGtI (pe_ix ixLi (pv 0) pe_int (fun _ _ => rfl)) pe_int rfl) (pss_cons (ps_set (i := 2) sc_law_dip.nd rfl (Or.inl rfl) (pe_op oModI (pe_callTy cInt (by rfl) T.int (by decide +kernel) (pa_cons (pe_ix ixLi (pv 0) pe_int (fun _ _ => rfl)) pa_nil)) (pv 1))) (pss_cons (ps_asg (pe_op oDivI (pe_callTy cInt (by rfl) T.int (by decide +kernel) (pa_cons (pe_ix ixLi (pv 0) pe_int (fun _ _ => rfl)) pa_nil)) (pv 1)) (pg_sub (pv 0) pe_int set_list)) (pss_one (ps_ret (pv 2))))) pss_nil) (pss_cons (ps_asg (pe_op oModI (pe_callTy cInt (by rfl) T.int (by decide +kernel) (pa_cons (pe_op oAddI (pe_op oMulI (pe_ix ixLi (pv 0) pe_int (fun _ _ => rfl)) pe_int) pe_int) pa_nil)) pe_int) (pg_sub (pv 0) pe_int set_list)) (pss_cons (ps_set (i := 3) sc_law_dip.nd rfl (Or.inl rfl) (pe_op oModI (pe_op oMulI (pe_callTy cInt (by rfl) T.int (by decide +kernel) (pa_cons (pe_ix ixLi (pv 0) pe_int (fun _ _ => rfl)) pa_nil)) (pe_op oAddI (pe_op oDivI (pe_callTy cInt (by rfl) T.int (by decide +kernel) (pa_cons (pe_ix ixLi (pv 0) pe_int (fun _ _ => rfl)) pa_nil)) pe_int) pe_int)) pe_int)) (pss_one (ps_ret (pe_op oModI (pe_callTy cInt (by rfl) T.int (by decide +kernel) (pa_cons (pe_op oDivI (pe_callTy cInt (by rfl) T.int (by decide +kernel) (pa_cons (pv 3) pa_nil)) pe_int) pa_nil)) (pv 1))))))), run_jar h (fun j x hx => ?_)⟩
  try dsimp only [cxOf, List.map_cons, List.map_nil]
  obtain ⟨h1, h2⟩ := hx
  walk_at "dl"
  refine ⟨fun hc => ?_, fun hc => ?_⟩
  · walk_at "dl"
    refine rd_modI (by omega) ?_
    walk_at "dl"
    refine rd_divI (cdivN (by omega) (by omega)) ?_
    walk_at "dl"
    refine ⟨Int.fdiv_nonneg (by assumption) (by omega), ?_⟩
    walk_at "dl"
    exact ⟨Int.fmod_nonneg_of_pos _ (by omega), Int.fmod_lt_of_pos _ (by omega)⟩
  · walk_at "dl"
    refine rd_mulI (cmul1 (by assumption) (by omega)) ?_
    walk_at "dl"
    refine rd_modI (by decide) ?_
    walk_at "dl"
    refine ⟨Int.fmod_nonneg_of_pos _ (by decide), Int.fmod_lt_of_pos _ (by decide), ?_⟩
    walk_at "dl"
    refine rd_divI (cdivN (by decide) (by decide)) ?_
    walk_at "dl"
    rename_i y1 h5 h6 y2 h7 h8
    refine rd_mulI (cmul1 h5 (by omega)) ?_
    walk_at "dl"
    refine rd_modI (by decide) ?_
    walk_at "dl"
    refine rd_divI (cdivN (by decide) (by decide)) ?_
    walk_at "dl"
    refine rd_modI (by omega) ?_
    walk_at "dl"
    exact ⟨Int.fmod_nonneg_of_pos _ (by omega), Int.fmod_lt_of_pos _ (by omega)⟩
end CL
set_option Elab.async false
set_option linter.all false
set_option maxRecDepth 100000
set_option maxHeartbeats 2000000
namespace CL
open PySem L2 DL
local macro_rules | `(tactic| walk_at "dl1") => `(tactic| first
  | ((with_reducible refine' ed_var ?hv ?_); (case hv => exact rfl))
  | with_reducible refine ed_int ?_
  | with_reducible refine ed_str ?_
  | with_reducible refine ed_bl ?_
  | with_reducible refine ed_non ?_
  | ((with_reducible refine' ed_jar0 ?hj ?_); (case hj => exact rfl); intro x hx)
  | ((with_reducible refine' ed_jar1 ?hj ?_); (case hj => exact rfl); intro x hx hx2)
  | ((with_reducible refine' ed_callJ ?hj ?_); (case hj => exact rfl))
  | ((with_reducible refine' sd_jset0 ?hj ?_); (case hj => exact rfl))
  | ((with_reducible refine' sd_jset1 ?hj ?_); (case hj => exact rfl))
  | with_reducible refine ed_op ?_
  | with_reducible refine ea_cons ?_
  | with_reducible refine ea_nil ?_
  | with_reducible refine ed_isi ?_
  | with_reducible refine ed_cb ?_
  | with_reducible refine ed_zip ?_
  | with_reducible refine ed_sset ?_
  | with_reducible refine ed_rg1 ?_
  | with_reducible refine ed_rg2 ?_
  | with_reducible refine ed_call ?_
  | with_reducible refine ed_tup ?_
  | with_reducible refine ed_lst ?_
  | with_reducible refine ed_andV ?_
  | with_reducible refine ed_orV ?_
  | with_reducible refine ed_notV ?_
  | with_reducible refine ed_chain ?_
  | with_reducible refine ed_if ?_
  | with_reducible refine ed_un ?_
  | with_reducible refine ed_sl ?_
  | with_reducible refine ed_revL ?_
  | with_reducible refine ed_m1 ?_
  | with_reducible refine eo_no ?_
  | with_reducible refine eo_some ?_
  | with_reducible refine et_test ?_
  | with_reducible refine et_B ?_
  | with_reducible refine et_and ?_
  | with_reducible refine et_or ?_
  | with_reducible refine et_not ?_
  | with_reducible refine et_yes ?_
  | with_reducible refine sb_start (Nat.le_of_ble_eq_true rfl) (fun M' => ?_)
  | with_reducible refine sd_seq ?_
  | with_reducible refine ep_cons ?_
  | with_reducible refine ep_nil ?_
  | with_reducible refine sd_next ?_
  | with_reducible refine sd_set ?_
  | with_reducible refine sd_ret ?_
  | with_reducible refine sd_drop ?_
  | with_reducible refine sd_if ?_
  | with_reducible refine sd_par ?_
  | with_reducible refine sd_par3 ?_
  | with_reducible refine rd_addI ?_
  | with_reducible refine rd_subI ?_
  | with_reducible refine rd_ltI ?_
  | with_reducible refine rd_leI ?_
  | with_reducible refine rd_gtI ?_
  | with_reducible refine rd_geI ?_
  | with_reducible refine rd_isNo ?_
  | with_reducible refine rd_notNo ?_
  | with_reducible refine cd_lenL ?_
  | with_reducible refine cd_lenT ?_
  | with_reducible refine cd_abs ?_
  | with_reducible refine cd_intI ?_
  | with_reducible refine cd_intB ?_
  | with_reducible refine cd_strS ?_
  | with_reducible refine cd_listT ?_
  | with_reducible refine cd_tupleL ?_
  | with_reducible refine sd_L ?_
  | with_reducible refine sd_T ?_
  | with_reducible refine gd_name ?_
  | ((with_reducible refine' ed_lcL1y ?hv ?_); (case hv => exact rfl))
  | ((with_reducible refine' ed_lcT1y ?hv ?_); (case hv => exact rfl))
  | ((with_reducible refine' ed_lcL1 ?hv ?_); (case hv => exact rfl))
  | ((with_reducible refine' ed_lcT1 ?hv ?_); (case hv => exact rfl))
  | with_reducible refine exB ?_
  | with_reducible refine exI ?_
  | with_reducible refine exS ?_
  | with_reducible refine exL ?_
  | with_reducible refine exT ?_
  | with_reducible refine exLs ?_
  | with_reducible refine exIs ?_
  | with_reducible refine ex2 ?_
  | with_reducible refine ex3 ?_
  | with_reducible refine ln0 ?_
  | with_reducible refine ln1 ?_
  | with_reducible refine ln2 ?_
  | with_reducible refine ln3 ?_
  | with_reducible refine ln4 ?_
  | with_reducible refine ln5 ?_
  | with_reducible refine ln6 ?_
  | with_reducible refine ln7 ?_
  | with_reducible refine ln8 ?_
  | with_reducible refine ln9 ?_
  | with_reducible refine ln10 ?_
  | with_reducible refine ln11 ?_
  | with_reducible refine ln12 ?_
  | with_reducible refine cTT ?_
  | with_reducible refine cFT ?_
  | with_reducible refine cTF ?_
  | with_reducible refine cFF ?_
  | with_reducible refine nTT ?_
  | with_reducible refine nFT ?_
  | with_reducible refine nTF ?_
  | with_reducible refine nFF ?_
  | refine rd_ixT0 ?_
  | refine rd_ixL0 ?_
  | refine rd_ixT rfl ?_
  | refine rd_ixL rfl ?_)
local macro_rules | `(tactic| walk_at "dl") => `(tactic| repeat (walk_at "dl1"))
local macro_rules | `(tactic| walk_at "call1") => `(tactic| ((refine ⟨_, rfl, ?hcd, fun r hr => ?hcr⟩); (case hcd => first | assumption | rfl); (case hcr => (subst hr; try walk_at "dl"))))
local macro_rules | `(tactic| walk_at "and") => `(tactic| (refine ed_andE ?_; try walk_at "dl"))
local macro_rules | `(tactic| walk_at "k") => `(tactic| ((first | refine ct rfl ?_ | refine cf rfl ?_ | refine ct' rfl ?_ | refine cf' rfl ?_); try walk_at "dl"))
/-! ### fractions drawn -/
theorem low_spec {n d : Int} (hd : 0 < d) : ∃ g p q : Int, lowP n d = (p, q) ∧ 0 < g ∧ p * g = n ∧ q * g = d ∧ 0 < q := by
  have gp := gcd_pos (n := n) hd
  have h1 : (Int.gcd n d : Int) ∣ n := Int.gcd_dvd_left ..
  have h2 : (Int.gcd n d : Int) ∣ d := Int.gcd_dvd_right ..
  refine ⟨_, _, _, rfl, gp, Int.ediv_mul_cancel h1, Int.ediv_mul_cancel h2, ?_⟩
  exact Int.ediv_pos_of_pos_of_dvd hd (by omega) h2
theorem low_lt {n d : Int} (hd : 0 < d) (r : Int × Int) : (ltP (lowP n d) r = true) ↔ n * r.2 < r.1 * d := by
  obtain ⟨g, p, q, e, hg, h1, h2, h3⟩ := low_spec (n := n) hd
  rw [e]
  show decide (p * r.2 < r.1 * q) = true ↔ _
  rw [decide_eq_true_iff, ← h1, ← h2]
  have e1 : p * g * r.2 = (p * r.2) * g := by rw [Int.mul_right_comm]
  have e2 : r.1 * (q * g) = (r.1 * q) * g := by rw [Int.mul_assoc]
  rw [e1, e2]
  exact ⟨fun h => Int.mul_lt_mul_of_pos_right h hg, fun h => Int.lt_of_mul_lt_mul_right h (by omega)⟩
theorem low_gt {n d : Int} (hd : 0 < d) (r : Int × Int) : (ltP r (lowP n d) = true) ↔ r.1 * d < n * r.2 := by
  obtain ⟨g, p, q, e, hg, h1, h2, h3⟩ := low_spec (n := n) hd
  rw [e]
  show decide (r.1 * q < p * r.2) = true ↔ _
  rw [decide_eq_true_iff, ← h1, ← h2]
  have e1 : p * g * r.2 = (p * r.2) * g := by rw [Int.mul_right_comm]
  have e2 : r.1 * (q * g) = (r.1 * q) * g := by rw [Int.mul_assoc]
  rw [e1, e2]
  exact ⟨fun h => Int.mul_lt_mul_of_pos_right h hg, fun h => Int.lt_of_mul_lt_mul_right h (by omega)⟩
theorem low_good {n d : Int} (h0 : 0 ≤ n) (h1 : n ≤ 100000) (hd : 0 < d) (h2 : d ≤ 100) : GoodFr (lowP n d) := by
  have gp := gcd_pos (n := n) hd
  obtain ⟨g, p, q, e, hg, k1, k2, k3⟩ := low_spec (n := n) hd
  have hgcd : Int.gcd (lowP n d).1 (lowP n d).2 = 1 := by
    show Int.gcd (n / _) (d / _) = 1
    exact Int.gcd_ediv_gcd_ediv_gcd (by have : 0 < Int.gcd n d := by omega
                                        exact this)
  rw [e] at hgcd ⊢
  refine ⟨?_, ?_, ?_, ?_, hgcd⟩
  · show 0 ≤ p
    rcases Int.lt_or_le p 0 with h | h
    · have := Int.mul_neg_of_neg_of_pos h hg
      omega
    · exact h
  · show p ≤ 100000
    rcases Int.lt_or_le p 0 with h | h
    · omega
    · have : p * 1 ≤ p * g := Int.mul_le_mul_of_nonneg_left (by omega) h
      omega
  · show 1 ≤ q
    omega
  · show q ≤ 100
    have : q * 1 ≤ q * g := Int.mul_le_mul_of_nonneg_left (by omega) (by omega)
    omega
theorem good_pr {m n d : Int} {lo hi : Int × Int} (h0 : 0 ≤ m) (h1 : m ≤ n) (h2 : n ≤ 100000) (hd : 0 < d) (h3 : d ≤ 100) (hl : lo.1 * d ≤ m * lo.2) (hh : n * hi.2 ≤ hi.1 * d) : GoodPr lo hi (lowP m d, lowP n d) := by
  refine ⟨low_good h0 (by omega) hd h3, low_good (by omega) h2 hd h3, ?_, ?_, ?_⟩
  · cases h : ltP (lowP n d) (lowP m d) with
    | false => rfl
    | true =>
      rw [low_lt hd] at h
      obtain ⟨g, p, q, e, hg, k1, k2, k3⟩ := low_spec (n := m) hd
      rw [e] at h
      dsimp only at h
      have e1 : p * d = m * q := by rw [← k2, ← k1, ← Int.mul_assoc, Int.mul_right_comm]
      rw [e1] at h
      have := Int.mul_le_mul_of_nonneg_right h1 (show 0 ≤ q by omega)
      omega
  · cases h : ltP (lowP m d) lo with
    | false => rfl
    | true => rw [low_lt hd] at h; omega
  · cases h : ltP hi (lowP n d) with
    | false => rfl
    | true => rw [low_gt hd] at h; omega
abbrev spAnyOf (K : PySem.W.Frag) : Sp := spJ K (fun ds : List PyData => [.list ds]) (fun ds => ds ≠ [] ∧ ds.length ≤ 1000) (fun ds r => r ∈ ds)
theorem ok_law_any_of {P : Program} {w : World} {K : PySem.W.Frag} {mg : PySem.Str → Option Value} {base : Heap} {a : Ads} {d : Fds} (T : Txt K mg a d) : FnOk P w K mg base CX0 2 a.law_any_of d.law_any_of P_law_any_of (spAnyOf K) := by
  have G_law_dip := ok_law_dip (P := P) (w := w) (base := base) T
  refine T.F_law_any_of.ok sc_law_any_of (fun vs H Q E h => ?_) (fun cdv A outer s H vs Q E hr h => ?_)
  · obtain ⟨j, x, ws, rfl, _, ha, _⟩ := h
    have e := ha.length
    rw [List.length_cons, e]
    rfl
  refine ⟨_, (pss_one (ps_ret (pe_ix ixLi (pv 1) (pe_call G_law_dip (hr.mono (by decide)) rfl T.g_law_dip T.k_law_dip T.b_law_dip .nil pass0 (pa_cons (pv 0) (pa_cons (pe_callB cLen (by rfl) T.len (by decide +kernel) (pa_cons (pv 1) pa_nil)) pa_nil))) (fun _ _ => rfl)))), run_jar h (fun j x hx => ?_)⟩
  try dsimp only [cxOf, List.map_cons, List.map_nil]
  obtain ⟨h1, h2⟩ := hx
  have h0 : 0 < x.length := List.length_pos_iff.mpr h1
  walk_at "dl"
  refine ⟨⟨by omega, by omega⟩, fun r hr => ?_⟩
  obtain ⟨k, rfl, k0, k1⟩ := hr
  refine rd_ixLi k0 (by omega) ?_
  show x.getD k.toNat .none ∈ x
  have hk : k.toNat < x.length := by omega
  rw [List.getD_eq_getElem?_getD, List.getElem?_eq_getElem hk]
  exact List.getElem_mem hk
abbrev spLawLow (K : PySem.W.Frag) : Sp := spP K (fun x : Int × Int => [.int x.1, .int x.2]) (fun x => Small x.1 x.2) (fun x r => r = fr (lowP x.1 x.2))
def InvL (n e : Int) (ρ : Rho) : Prop := ∃ c d : Int, ρ = [.dat (.int n), .dat (.int e), .dat (.int c), .dat (.int d)] ∧ 0 ≤ c ∧ 0 ≤ d ∧ Int.gcd c d = Int.gcd n e
def muL : Rho → Nat
  | [_, _, _, .dat (.int d)] => d.toNat
  | _ => 0
theorem ok_law_low {P : Program} {w : World} {K : PySem.W.Frag} {mg : PySem.Str → Option Value} {base : Heap} {a : Ads} {d : Fds} (T : Txt K mg a d) : FnOk P w K mg base CX0 1 a.law_low d.law_low P_law_low (spLawLow K) := by
  refine T.F_law_low.ok sc_law_low (fun vs H Q E h => ?_) (fun cdv A outer s H vs Q E hr h => ?_)
  · obtain ⟨vol, x, _, ha, _⟩ := h
    have e := ha.length
    rw [e]
    rfl
  refine ⟨_, (pss_cons (ps_par rfl sc_law_low.nd (i := 2) (j := 3) rfl rfl (by decide) rfl rfl (pa_cons (pe_callB cAbs (by rfl) T.abs (by decide +kernel) (pa_cons (pv 0) pa_nil)) (pa_cons (pe_callB cAbs (by rfl) T.abs (by decide +kernel) (pa_cons (pv 1) pa_nil)) pa_nil)) rfl) (pss_cons (ps_while PassesOwn.never (pt_cmpR (oNeP hr.units) (pv 3) pe_int rfl) (pss_one (ps_par rfl sc_law_low.nd (i := 2) (j := 3) rfl rfl (by decide) rfl rfl (pa_cons (pv 3) (pa_cons (pe_op oModI (pv 2) (pv 3)) pa_nil)) rfl))) (pss_one (ps_ret (pe_ifExp (pt_cmpR oGtI (pv 1) pe_int rfl) (pe_tup (pa_cons (pe_op oDivI (pv 0) (pv 2)) (pa_cons (pe_op oDivI (pv 1) (pv 2)) pa_nil))) (pe_tup (pa_cons (pe_op oDivI (pe_un un_neg (pv 0)) (pv 2)) (pa_cons (pe_op oDivI (pe_un un_neg (pv 1)) (pv 2)) pa_nil)))))))), run_pure h (fun M x hx => ?_)⟩
  try dsimp only [cxOf, List.map_cons, List.map_nil]
  obtain ⟨n, e⟩ := x
  obtain ⟨h0, h1, h2⟩ := hx
  dsimp only at h0 h1 h2
  walk_at "dl"
  have ea : (if n < 0 then -n else n) = n := by rw [if_neg (by omega)]
  have eb : (if e < 0 then -e else e) = e := by rw [if_neg (by omega)]
  rw [ea, eb]
  refine sd_while (InvL n e) muL ⟨n, e, rfl, h0, by omega, rfl⟩ (fun ρ' hI => ?_)
  obtain ⟨c, d', rfl, hc, hd, hg⟩ := hI
  walk_at "dl"
  refine rd_neP okEq_ii ?_
  rw [eqv_int]
  refine exB ⟨fun hb => ?_, fun hb => ?_⟩
  · have hb' : ¬ d' = 0 := by simpa using hb
    walk_at "dl"
    refine rd_modI (by omega) ?_
    walk_at "dl"
    have e := emod_of hc hd
    rw [e]
    have g1 := Int.emod_nonneg c (show d' ≠ 0 by omega)
    have g2 := Int.emod_lt_of_pos c (show 0 < d' by omega)
    refine ⟨⟨d', c % d', rfl, hd, g1, (gcd_step hc hd).trans hg⟩, ?_⟩
    show (c % d').toNat < d'.toNat
    omega
  · have hb' : d' = 0 := by simpa using hb
    subst hb'
    have hgc : (Int.gcd n e : Int) = c := by rw [← hg, Int.gcd_zero_right]; omega
    have gp := gcd_pos (n := n) h1
    have gl := gcd_le (n := n) h1
    walk_at "dl"
    refine ct (decide_eq_true h1) ?_
    walk_at "dl"
    refine rd_divI (cdivN (by omega) (by omega)) ?_
    walk_at "dl"
    refine rd_divI (cdivN (by omega) (by omega)) ?_
    walk_at "dl"
    rw [Int.fdiv_eq_ediv_of_nonneg _ (by omega : (0 : Int) ≤ c), Int.fdiv_eq_ediv_of_nonneg _ (by omega : (0 : Int) ≤ c), ← hgc]
    rfl
abbrev spLawPair (K : PySem.W.Frag) : Sp := spJ K (fun x : Int × Int × Int => [.int x.1, .int x.2.1, .int x.2.2]) (fun x => 0 ≤ x.1 ∧ x.1 ≤ x.2.1 ∧ x.2.1 ≤ 1000 ∧ 0 < x.2.2 ∧ x.2.2 ≤ 100)
  (fun x r => ∃ m n : Int, r = pr (lowP m x.2.2, lowP n x.2.2) ∧ x.1 ≤ m ∧ m ≤ n ∧ n ≤ x.2.1)
theorem ok_law_pair {P : Program} {w : World} {K : PySem.W.Frag} {mg : PySem.Str → Option Value} {base : Heap} {a : Ads} {d : Fds} (T : Txt K mg a d) : FnOk P w K mg base CX0 2 a.law_pair d.law_pair P_law_pair (spLawPair K) := by
  have G_law_dip := ok_law_dip (P := P) (w := w) (base := base) T
  have G_law_low := ok_law_low (P := P) (w := w) (base := base) T
  refine T.F_law_pair.ok sc_law_pair (fun vs H Q E h => ?_) (fun cdv A outer s H vs Q E hr h => ?_)
  · obtain ⟨j, x, ws, rfl, _, ha, _⟩ := h
    have e := ha.length
    rw [List.length_cons, e]
    rfl
  refine ⟨_, (pss_cons (ps_set (i := 4) sc_law_pair.nd rfl (Or.inl rfl) (pe_op oAddI (pv 1) (pe_call G_law_dip (hr.mono (by decide)) rfl T.g_law_dip T.k_law_dip T.b_law_dip .nil pass0 (pa_cons (pv 0) (pa_cons (pe_op oAddI (pe_op oSubI (pv 2) (pv 1)) pe_int) pa_nil))))) (pss_cons (ps_set (i := 5) sc_law_pair.nd rfl (Or.inl rfl) (pe_op oMulI (pe_call G_law_dip (hr.mono (by decide)) rfl T.g_law_dip T.k_law_dip T.b_law_dip .nil pass0 (pa_cons (pv 0) (pa_cons (pe_op oAddI (pe_op oSubI (pv 2) (pv 4)) pe_int) pa_nil))) (pe_callTy cInt (by rfl) T.int (by decide +kernel) (pa_cons (pe_cmpR oGtI (pe_call G_law_dip (hr.mono (by decide)) rfl T.g_law_dip T.k_law_dip T.b_law_dip .nil pass0 (pa_cons (pv 0) (pa_cons pe_int pa_nil))) pe_int rfl) pa_nil)))) (pss_one (ps_ret (pe_tup (pa_cons (pe_call G_law_low (hr.mono (by decide)) rfl T.g_law_low T.k_law_low T.b_law_low .nil pass0 (pa_cons (pv 4) (pa_cons (pv 3) pa_nil))) (pa_cons (pe_call G_law_low (hr.mono (by decide)) rfl T.g_law_low T.k_law_low T.b_law_low .nil pass0 (pa_cons (pe_op oAddI (pv 4) (pv 5)) (pa_cons (pv 3) pa_nil))) pa_nil))))))), run_jar h (fun j x hx => ?_)⟩
  try dsimp only [cxOf, List.map_cons, List.map_nil]
  obtain ⟨lo, hi, be⟩ := x
  obtain ⟨h0, h1, h2, h3, h4⟩ := hx
  dsimp only at h0 h1 h2 h3 h4
  walk_at "dl"
  refine ⟨⟨by dsimp only; omega, by dsimp only; omega⟩, fun r hr => ?_⟩
  obtain ⟨k, rfl, k0, k1⟩ := hr
  walk_at "dl"
  refine ⟨⟨by dsimp only at k1 ⊢; omega, by dsimp only at k1 ⊢; omega⟩, fun r hr => ?_⟩
  obtain ⟨f, rfl, f0, f1⟩ := hr
  dsimp only at k1 f1
  walk_at "dl"
  refine ⟨⟨by omega, by omega⟩, fun r hr => ?_⟩
  obtain ⟨z, rfl, z0, z1⟩ := hr
  walk_at "dl"
  refine rd_mulI (cmul1 f0 (by omega)) ?_
  have hf : 0 ≤ f * (if decide (0 < z) = true then (1 : Int) else 0) ∧ f * (if decide (0 < z) = true then (1 : Int) else 0) ≤ f := by
    cases decide (0 < z) with
    | true => rw [if_pos rfl, Int.mul_one]; exact ⟨f0, Int.le_refl _⟩
    | false => rw [if_neg Bool.false_ne_true, Int.mul_zero]; exact ⟨Int.le_refl _, f0⟩
  generalize f * (if decide (0 < z) = true then (1 : Int) else 0) = ff at hf ⊢
  walk_at "dl"
  refine ⟨(lo + k, be), rfl, ⟨by show 0 ≤ lo + k; omega, h3, by show be ≤ 1000000; omega⟩, fun r hr => ?_⟩; subst hr
  walk_at "dl"
  refine ⟨(lo + k + ff, be), rfl, ⟨by show 0 ≤ lo + k + ff; omega, h3, by show be ≤ 1000000; omega⟩, fun r hr => ?_⟩; subst hr
  walk_at "dl"
  exact ⟨lo + k, lo + k + ff, rfl, by show lo ≤ lo + k; omega, by omega, by show lo + k + ff ≤ hi; omega⟩
end CL
set_option Elab.async false
set_option linter.all false
set_option maxRecDepth 100000
set_option maxHeartbeats 2000000
namespace CL
open PySem L2 DL
local macro_rules | `(tactic| walk_at "dl1") => `(tactic| first
  | ((with_reducible refine' ed_var ?hv ?_); (case hv => exact rfl))
  | with_reducible refine ed_int ?_
  | with_reducible refine ed_str ?_
  | with_reducible refine ed_bl ?_
  | with_reducible refine ed_non ?_
  | ((with_reducible refine' ed_jar0 ?hj ?_); (case hj => exact rfl); intro x hx)
  | ((with_reducible refine' ed_jar1 ?hj ?_); (case hj => exact rfl); intro x hx hx2)
  | ((with_reducible refine' ed_callJ ?hj ?_); (case hj => exact rfl))
  | ((with_reducible refine' sd_jset0 ?hj ?_); (case hj => exact rfl))
  | ((with_reducible refine' sd_jset1 ?hj ?_); (case hj => exact rfl))
  | with_reducible refine ed_op ?_
  | with_reducible refine ea_cons ?_
  | with_reducible refine ea_nil ?_
  | with_reducible refine ed_isi ?_
  | with_reducible refine ed_cb ?_
  | with_reducible refine ed_zip ?_
  | with_reducible refine ed_sset ?_
  | with_reducible refine ed_rg1 ?_
  | with_reducible refine ed_rg2 ?_
  | with_reducible refine ed_call ?_
  | with_reducible refine ed_tup ?_
  | with_reducible refine ed_lst ?_
  | with_reducible refine ed_andV ?_
  | with_reducible refine ed_orV ?_
  | with_reducible refine ed_notV ?_
  | with_reducible refine ed_chain ?_
  | with_reducible refine ed_if ?_
  | with_reducible refine ed_un ?_
  | with_reducible refine ed_sl ?_
  | with_reducible refine ed_revL ?_
  | with_reducible refine ed_m1 ?_
  | with_reducible refine eo_no ?_
  | with_reducible refine eo_some ?_
  | with_reducible refine et_test ?_
  | with_reducible refine et_B ?_
  | with_reducible refine et_and ?_
  | with_reducible refine et_or ?_
  | with_reducible refine et_not ?_
  | with_reducible refine et_yes ?_
  | with_reducible refine sb_start (Nat.le_of_ble_eq_true rfl) (fun M' => ?_)
  | with_reducible refine sd_seq ?_
  | with_reducible refine ep_cons ?_
  | with_reducible refine ep_nil ?_
  | with_reducible refine sd_next ?_
  | with_reducible refine sd_set ?_
  | with_reducible refine sd_ret ?_
  | with_reducible refine sd_drop ?_
  | with_reducible refine sd_if ?_
  | with_reducible refine sd_par ?_
  | with_reducible refine sd_par3 ?_
  | with_reducible refine rd_addI ?_
  | with_reducible refine rd_subI ?_
  | with_reducible refine rd_ltI ?_
  | with_reducible refine rd_leI ?_
  | with_reducible refine rd_gtI ?_
  | with_reducible refine rd_geI ?_
  | with_reducible refine rd_isNo ?_
  | with_reducible refine rd_notNo ?_
  | with_reducible refine cd_lenL ?_
  | with_reducible refine cd_lenT ?_
  | with_reducible refine cd_abs ?_
  | with_reducible refine cd_intI ?_
  | with_reducible refine cd_intB ?_
  | with_reducible refine cd_strS ?_
  | with_reducible refine cd_listT ?_
  | with_reducible refine cd_tupleL ?_
  | with_reducible refine sd_L ?_
  | with_reducible refine sd_T ?_
  | with_reducible refine gd_name ?_
  | ((with_reducible refine' ed_lcL1y ?hv ?_); (case hv => exact rfl))
  | ((with_reducible refine' ed_lcT1y ?hv ?_); (case hv => exact rfl))
  | ((with_reducible refine' ed_lcL1 ?hv ?_); (case hv => exact rfl))
  | ((with_reducible refine' ed_lcT1 ?hv ?_); (case hv => exact rfl))
  | with_reducible refine exB ?_
  | with_reducible refine exI ?_
  | with_reducible refine exS ?_
  | with_reducible refine exL ?_
  | with_reducible refine exT ?_
  | with_reducible refine exLs ?_
  | with_reducible refine exIs ?_
  | with_reducible refine ex2 ?_
  | with_reducible refine ex3 ?_
  | with_reducible refine ln0 ?_
  | with_reducible refine ln1 ?_
  | with_reducible refine ln2 ?_
  | with_reducible refine ln3 ?_
  | with_reducible refine ln4 ?_
  | with_reducible refine ln5 ?_
  | with_reducible refine ln6 ?_
  | with_reducible refine ln7 ?_
  | with_reducible refine ln8 ?_
  | with_reducible refine ln9 ?_
  | with_reducible refine ln10 ?_
  | with_reducible refine ln11 ?_
  | with_reducible refine ln12 ?_
  | with_reducible refine cTT ?_
  | with_reducible refine cFT ?_
  | with_reducible refine cTF ?_
  | with_reducible refine cFF ?_
  | with_reducible refine nTT ?_
  | with_reducible refine nFT ?_
  | with_reducible refine nTF ?_
  | with_reducible refine nFF ?_
  | refine rd_ixT0 ?_
  | refine rd_ixL0 ?_
  | refine rd_ixT rfl ?_
  | refine rd_ixL rfl ?_)
local macro_rules | `(tactic| walk_at "dl") => `(tactic| repeat (walk_at "dl1"))
local macro_rules | `(tactic| walk_at "call1") => `(tactic| ((refine ⟨_, rfl, ?hcd, fun r hr => ?hcr⟩); (case hcd => first | assumption | rfl); (case hcr => (subst hr; try walk_at "dl"))))
local macro_rules | `(tactic| walk_at "and") => `(tactic| (refine ed_andE ?_; try walk_at "dl"))
local macro_rules | `(tactic| walk_at "k") => `(tactic| ((first | refine ct rfl ?_ | refine cf rfl ?_ | refine ct' rfl ?_ | refine cf' rfl ?_); try walk_at "dl"))
/-! ### the world drawn -/
theorem goodFr_of {p : Int × Int} (h0 : 0 ≤ p.1) (h1 : p.1 ≤ 100000) (h2 : 1 ≤ p.2) (h3 : p.2 ≤ 100) (h4 : Int.gcd p.1 p.2 = 1) : GoodFr p := ⟨h0, h1, h2, h3, h4⟩
theorem st_1 : GoodPr (49, 50) (51, 50) ((1, 1), (1, 1)) := ⟨goodFr_of (by decide) (by decide) (by decide) (by decide) (by decide), goodFr_of (by decide) (by decide) (by decide) (by decide) (by decide), by decide, by decide, by decide⟩
theorem st_2 : GoodPr (49, 50) (51, 50) ((49, 50), (51, 50)) := ⟨goodFr_of (by decide) (by decide) (by decide) (by decide) (by decide), goodFr_of (by decide) (by decide) (by decide) (by decide) (by decide), by decide, by decide, by decide⟩
abbrev spLawWorld (K : PySem.W.Frag) : Sp := spJ K (fun _ : Unit => []) (fun _ => True) (fun _ r => ∃ W : Wd, r = W.d ∧ GoodWd W)
theorem ok_law_world {P : Program} {w : World} {K : PySem.W.Frag} {mg : PySem.Str → Option Value} {base : Heap} {a : Ads} {d : Fds} (T : Txt K mg a d) : FnOk P w K mg base CX0 3 a.law_world d.law_world P_law_world (spLawWorld K) := by
  have G_law_any_of := ok_law_any_of (P := P) (w := w) (base := base) T
  have G_law_pair := ok_law_pair (P := P) (w := w) (base := base) T
  have G_law_dip := ok_law_dip (P := P) (w := w) (base := base) T
  refine T.F_law_world.ok sc_law_world (fun vs H Q E h => ?_) (fun cdv A outer s H vs Q E hr h => ?_)
  · obtain ⟨j, x, ws, rfl, _, ha, _⟩ := h
    have e := ha.length
    rw [List.length_cons, e]
    rfl
  refine ⟨_, (pss_cons (ps_set (i := 1) sc_law_world.nd rfl (Or.inl rfl) (pe_tup pa_nil)) (pss_cons (ps_for PassesOwn.never rfl (pi_range1 rfl T.range (pa_cons (pe_op oAddI pe_int (pe_call G_law_dip (hr.mono (by decide)) rfl T.g_law_dip T.k_law_dip T.b_law_dip .nil pass0 (pa_cons (pv 0) (pa_cons pe_int pa_nil)))) pa_nil)) (pg_name (i := 2) sc_law_world.nd rfl (Or.inl rfl)) (pss_cons (ps_set (i := 3) sc_law_world.nd rfl (Or.inl rfl) (pe_call G_law_any_of (hr.mono (by decide)) rfl T.g_law_any_of T.k_law_any_of T.b_law_any_of .nil pass0 (pa_cons (pv 0) (pa_cons (pe_lst (pa_cons pe_int (pa_cons pe_int (pa_cons pe_int (pa_cons pe_int pa_nil))))) pa_nil)))) (pss_cons (ps_set (i := 4) sc_law_world.nd rfl (Or.inl rfl) (pe_lst (pa_cons (pe_tup (pa_cons (pe_tup (pa_cons pe_int (pa_cons pe_int pa_nil))) (pa_cons (pe_tup (pa_cons pe_int (pa_cons pe_int pa_nil))) pa_nil))) (pa_cons (pe_tup (pa_cons (pe_tup (pa_cons pe_int (pa_cons pe_int pa_nil))) (pa_cons (pe_tup (pa_cons pe_int (pa_cons pe_int pa_nil))) pa_nil))) (pa_cons (pe_call G_law_pair (hr.mono (by decide)) rfl T.g_law_pair T.k_law_pair T.b_law_pair .nil pass0 (pa_cons (pv 0) (pa_cons pe_int (pa_cons pe_int (pa_cons pe_int pa_nil))))) pa_nil))))) (pss_cons (ps_set (i := 5) sc_law_world.nd rfl (Or.inl rfl) (pe_call G_law_pair (hr.mono (by decide)) rfl T.g_law_pair T.k_law_pair T.b_law_pair .nil pass0 (pa_cons (pv 0) (pa_cons pe_int (pa_cons (pe_call G_law_any_of (hr.mono (by decide)) rfl T.g_law_any_of T.k_law_any_of T.b_law_any_of .nil pass0 (pa_cons (pv 0) (pa_cons (pe_lst (pa_cons (pv 3) (pa_cons (pe_op oMulI pe_int (pv 3)) pa_nil))) pa_nil))) (pa_cons (pv 3) pa_nil)))))) (pss_one (ps_set (i := 1) sc_law_world.nd rfl (Or.inl rfl) (pe_op oCatT (pv 1) (pe_tup (pa_cons (pe_tup (pa_cons (pv 5) (pa_cons (pe_call G_law_any_of (hr.mono (by decide)) rfl T.g_law_any_of T.k_law_any_of T.b_law_any_of .nil pass0 (pa_cons (pv 0) (pa_cons (pv 4) pa_nil))) pa_nil))) pa_nil))))))))) (pss_one (ps_ret (pe_tup (pa_cons (pv 1) (pa_cons (pe_call G_law_pair (hr.mono (by decide)) rfl T.g_law_pair T.k_law_pair T.b_law_pair .nil pass0 (pa_cons (pv 0) (pa_cons pe_int (pa_cons pe_int (pa_cons pe_int pa_nil))))) (pa_cons (pe_call G_law_pair (hr.mono (by decide)) rfl T.g_law_pair T.k_law_pair T.b_law_pair .nil pass0 (pa_cons (pv 0) (pa_cons pe_int (pa_cons pe_int (pa_cons pe_int pa_nil))))) pa_nil)))))))), run_jar h (fun j x hx => ?_)⟩
  try dsimp only [cxOf, List.map_cons, List.map_nil]
  walk_at "dl"
  refine sd_forR ?_
  walk_at "dl"
  refine ⟨⟨by omega, by omega⟩, fun r hr => ?_⟩
  obtain ⟨k, rfl, k0, k1⟩ := hr
  walk_at "dl"
  refine ⟨by omega, fun i ρ' => ∃ (ts : List (Pr × Pr)) (e2 e3 e4 e5 : Ent), ρ' = [.adr j, .dat (.tuple (ts.map tp)), e2, e3, e4, e5] ∧ ts.length = i ∧ ∀ t ∈ ts, GoodTape t, ⟨[], _, _, _, _, rfl, rfl, fun t ht => by cases ht⟩, fun i ρ' hi hI => ?_, fun ρ' hI => ?_⟩
  · obtain ⟨ts, e2, e3, e4, e5, rfl, hl, hg⟩ := hI
    walk_at "dl"
    refine ⟨⟨by simp, by simp⟩, fun r hr => ?_⟩
    have hbe : ∃ be : Int, r = .int be ∧ 0 < be ∧ be ≤ 10 := by
      simp only [List.mem_cons, List.not_mem_nil, or_false] at hr
      rcases hr with h | h | h | h
      · exact ⟨1, h, by decide, by decide⟩
      · exact ⟨2, h, by decide, by decide⟩
      · exact ⟨10, h, by decide, by decide⟩
      · exact ⟨7, h, by decide, by decide⟩
    obtain ⟨be, rfl, b0, b1⟩ := hbe
    walk_at "dl"
    refine ⟨(98, 102, 100), rfl, ⟨by decide, by decide, by decide, by decide, by decide⟩, fun r hr => ?_⟩
    obtain ⟨m1, n1, rfl, p1, p2, p3⟩ := hr
    have g3 : GoodPr (49, 50) (51, 50) (lowP m1 100, lowP n1 100) := good_pr (by dsimp only at p1 p2 p3; omega) p2 (by dsimp only at p1 p2 p3; omega) (by decide) (by decide) (by dsimp only at p1 p2 p3 ⊢; omega) (by dsimp only at p1 p2 p3 ⊢; omega)
    walk_at "dl"
    refine rd_mulI (cmul1 (by omega) (by omega)) ?_
    walk_at "dl"
    refine ⟨⟨by simp, by simp⟩, fun r hr => ?_⟩
    have hhi : ∃ hi : Int, r = .int hi ∧ be ≤ hi ∧ hi ≤ 2 * be := by
      simp only [List.mem_cons, List.not_mem_nil, or_false] at hr
      rcases hr with h | h
      · exact ⟨be, h, by omega, by omega⟩
      · exact ⟨2 * be, h, by omega, by omega⟩
    obtain ⟨hi, rfl, q1, q2⟩ := hhi
    walk_at "dl"
    refine ⟨(0, hi, be), rfl, ⟨by dsimp only; omega, by dsimp only; omega, by dsimp only; omega, b0, by dsimp only; omega⟩, fun r hr => ?_⟩
    obtain ⟨m2, n2, rfl, p4, p5, p6⟩ := hr
    have g1 : GoodPr (0, 1) (2, 1) (lowP m2 be, lowP n2 be) := good_pr p4 p5 (by dsimp only at p6; omega) b0 (by omega) (by dsimp only at p4 ⊢; omega) (by dsimp only at p6 ⊢; omega)
    dsimp only
    generalize (lowP m1 100, lowP n1 100) = s3 at g3 ⊢
    generalize (lowP m2 be, lowP n2 be) = la at g1 ⊢
    walk_at "dl"
    refine ⟨⟨by simp, by simp⟩, fun r hr => ?_⟩
    have hst : ∃ st : Pr, r = pr st ∧ GoodPr (49, 50) (51, 50) st := by
      simp only [List.mem_cons, List.not_mem_nil, or_false] at hr
      rcases hr with h | h | h
      · exact ⟨((1, 1), (1, 1)), h, st_1⟩
      · exact ⟨((49, 50), (51, 50)), h, st_2⟩
      · exact ⟨s3, h, g3⟩
    obtain ⟨st, rfl, g2⟩ := hst
    walk_at "dl"
    refine rd_catT (by rw [List.length_map]; show ts.length + 1 ≤ _; omega) ?_
    walk_at "dl"
    have em : ts.map tp ++ [PyData.tuple [pr la, pr st]] = (ts ++ [(la, st)]).map tp := by
      rw [List.map_append]
      rfl
    rw [em]
    refine ⟨ts ++ [(la, st)], _, _, _, _, rfl, by simp [hl], fun t ht => ?_⟩
    · rcases List.mem_append.mp ht with h | h
      · exact hg t h
      · rw [List.mem_singleton.mp h]
        exact ⟨g1, g2⟩
  · obtain ⟨ts, e2, e3, e4, e5, rfl, hl, hg⟩ := hI
    walk_at "dl"
    refine ⟨(0, 5, 10), rfl, ⟨by decide, by decide, by decide, by decide, by decide⟩, fun r hr => ?_⟩
    obtain ⟨m1, n1, rfl, p1, p2, p3⟩ := hr
    walk_at "dl"
    refine ⟨(0, 10, 20), rfl, ⟨by decide, by decide, by decide, by decide, by decide⟩, fun r hr => ?_⟩
    obtain ⟨m2, n2, rfl, p4, p5, p6⟩ := hr
    walk_at "dl"
    refine ⟨⟨ts, (lowP m1 10, lowP n1 10), (lowP m2 20, lowP n2 20)⟩, rfl, by rw [hl]; omega, hg, ?_, ?_⟩
    · exact good_pr p1 p2 (by dsimp only at p3; omega) (by decide) (by decide) (by dsimp only at p1 ⊢; omega) (by dsimp only at p3 ⊢; omega)
    · exact good_pr p4 p5 (by dsimp only at p6; omega) (by decide) (by decide) (by dsimp only at p4 ⊢; omega) (by dsimp only at p6 ⊢; omega)
end CL
set_option Elab.async false
set_option linter.all false
set_option maxRecDepth 100000
set_option maxHeartbeats 2000000
namespace CL
open PySem L2 DL
local macro_rules | `(tactic| walk_at "dl1") => `(tactic| first
  | ((with_reducible refine' ed_var ?hv ?_); (case hv => exact rfl))
  | with_reducible refine ed_int ?_
  | with_reducible refine ed_str ?_
  | with_reducible refine ed_bl ?_
  | with_reducible refine ed_non ?_
  | ((with_reducible refine' ed_jar0 ?hj ?_); (case hj => exact rfl); intro x hx)
  | ((with_reducible refine' ed_jar1 ?hj ?_); (case hj => exact rfl); intro x hx hx2)
  | ((with_reducible refine' ed_callJ ?hj ?_); (case hj => exact rfl))
  | ((with_reducible refine' sd_jset0 ?hj ?_); (case hj => exact rfl))
  | ((with_reducible refine' sd_jset1 ?hj ?_); (case hj => exact rfl))
  | with_reducible refine ed_op ?_
  | with_reducible refine ea_cons ?_
  | with_reducible refine ea_nil ?_
  | with_reducible refine ed_isi ?_
  | with_reducible refine ed_cb ?_
  | with_reducible refine ed_zip ?_
  | with_reducible refine ed_sset ?_
  | with_reducible refine ed_rg1 ?_
  | with_reducible refine ed_rg2 ?_
  | with_reducible refine ed_call ?_
  | with_reducible refine ed_tup ?_
  | with_reducible refine ed_lst ?_
  | with_reducible refine ed_andV ?_
  | with_reducible refine ed_orV ?_
  | with_reducible refine ed_notV ?_
  | with_reducible refine ed_chain ?_
  | with_reducible refine ed_if ?_
  | with_reducible refine ed_un ?_
  | with_reducible refine ed_sl ?_
  | with_reducible refine ed_revL ?_
  | with_reducible refine ed_m1 ?_
  | with_reducible refine eo_no ?_
  | with_reducible refine eo_some ?_
  | with_reducible refine et_test ?_
  | with_reducible refine et_B ?_
  | with_reducible refine et_and ?_
  | with_reducible refine et_or ?_
  | with_reducible refine et_not ?_
  | with_reducible refine et_yes ?_
  | with_reducible refine sb_start (Nat.le_of_ble_eq_true rfl) (fun M' => ?_)
  | with_reducible refine sd_seq ?_
  | with_reducible refine ep_cons ?_
  | with_reducible refine ep_nil ?_
  | with_reducible refine sd_next ?_
  | with_reducible refine sd_set ?_
  | with_reducible refine sd_ret ?_
  | with_reducible refine sd_drop ?_
  | with_reducible refine sd_if ?_
  | with_reducible refine sd_par ?_
  | with_reducible refine sd_par3 ?_
  | with_reducible refine rd_addI ?_
  | with_reducible refine rd_subI ?_
  | with_reducible refine rd_ltI ?_
  | with_reducible refine rd_leI ?_
  | with_reducible refine rd_gtI ?_
  | with_reducible refine rd_geI ?_
  | with_reducible refine rd_isNo ?_
  | with_reducible refine rd_notNo ?_
  | with_reducible refine cd_lenL ?_
  | with_reducible refine cd_lenT ?_
  | with_reducible refine cd_abs ?_
  | with_reducible refine cd_intI ?_
  | with_reducible refine cd_intB ?_
  | with_reducible refine cd_strS ?_
  | with_reducible refine cd_listT ?_
  | with_reducible refine cd_tupleL ?_
  | with_reducible refine sd_L ?_
  | with_reducible refine sd_T ?_
  | with_reducible refine gd_name ?_
  | ((with_reducible refine' ed_lcL1y ?hv ?_); (case hv => exact rfl))
  | ((with_reducible refine' ed_lcT1y ?hv ?_); (case hv => exact rfl))
  | ((with_reducible refine' ed_lcL1 ?hv ?_); (case hv => exact rfl))
  | ((with_reducible refine' ed_lcT1 ?hv ?_); (case hv => exact rfl))
  | with_reducible refine exB ?_
  | with_reducible refine exI ?_
  | with_reducible refine exS ?_
  | with_reducible refine exL ?_
  | with_reducible refine exT ?_
  | with_reducible refine exLs ?_
  | with_reducible refine exIs ?_
  | with_reducible refine ex2 ?_
  | with_reducible refine ex3 ?_
  | with_reducible refine ln0 ?_
  | with_reducible refine ln1 ?_
  | with_reducible refine ln2 ?_
  | with_reducible refine ln3 ?_
  | with_reducible refine ln4 ?_
  | with_reducible refine ln5 ?_
  | with_reducible refine ln6 ?_
  | with_reducible refine ln7 ?_
  | with_reducible refine ln8 ?_
  | with_reducible refine ln9 ?_
  | with_reducible refine ln10 ?_
  | with_reducible refine ln11 ?_
  | with_reducible refine ln12 ?_
  | with_reducible refine cTT ?_
  | with_reducible refine cFT ?_
  | with_reducible refine cTF ?_
  | with_reducible refine cFF ?_
  | with_reducible refine nTT ?_
  | with_reducible refine nFT ?_
  | with_reducible refine nTF ?_
  | with_reducible refine nFF ?_
  | refine rd_ixT0 ?_
  | refine rd_ixL0 ?_
  | refine rd_ixT rfl ?_
  | refine rd_ixL rfl ?_)
local macro_rules | `(tactic| walk_at "dl") => `(tactic| repeat (walk_at "dl1"))
local macro_rules | `(tactic| walk_at "call1") => `(tactic| ((refine ⟨_, rfl, ?hcd, fun r hr => ?hcr⟩); (case hcd => first | assumption | rfl); (case hcr => (subst hr; try walk_at "dl"))))
local macro_rules | `(tactic| walk_at "and") => `(tactic| (refine ed_andE ?_; try walk_at "dl"))
local macro_rules | `(tactic| walk_at "k") => `(tactic| ((first | refine ct rfl ?_ | refine cf rfl ?_ | refine ct' rfl ?_ | refine cf' rfl ?_); try walk_at "dl"))
/-! ### names and steps drawn -/
abbrev ABCD : List PySem.Str := ["a", "b", "c", "d"]
abbrev spLawName (K : PySem.W.Frag) : Sp := spJ K (fun xs : List PySem.Str => [.list (xs.map PyData.str)]) (fun xs => (∀ x ∈ xs, x ∈ ABCD) ∧ xs.length ≤ 100) (fun _ r => ∃ x, r = .str x ∧ x ∈ ABCD)
theorem mem_strs {r : PyData} {xs : List PySem.Str} (h : r ∈ xs.map PyData.str) : ∃ x, r = .str x ∧ x ∈ xs := by
  obtain ⟨x, hx, rfl⟩ := List.mem_map.mp h
  exact ⟨x, rfl, hx⟩
theorem ok_law_name {P : Program} {w : World} {K : PySem.W.Frag} {mg : PySem.Str → Option Value} {base : Heap} {a : Ads} {d : Fds} (T : Txt K mg a d) : FnOk P w K mg base CX0 3 a.law_name d.law_name P_law_name (spLawName K) := by
  have G_law_any_of := ok_law_any_of (P := P) (w := w) (base := base) T
  have G_law_dip := ok_law_dip (P := P) (w := w) (base := base) T
  refine T.F_law_name.ok sc_law_name (fun vs H Q E h => ?_) (fun cdv A outer s H vs Q E hr h => ?_)
  · obtain ⟨j, x, ws, rfl, _, ha, _⟩ := h
    have e := ha.length
    rw [List.length_cons, e]
    rfl
  refine ⟨_, (pss_cons (ps_set (i := 2) sc_law_name.nd rfl (Or.inl rfl) (pe_and (pe_cmpR (oNeP hr.units) (pv 1) (pe_lst pa_nil) rfl) (pe_one (pe_cmpR oGtI (pe_call G_law_dip (hr.mono (by decide)) rfl T.g_law_dip T.k_law_dip T.b_law_dip .nil pass0 (pa_cons (pv 0) (pa_cons pe_int pa_nil))) pe_int rfl)))) (pss_one (ps_ret (pe_call G_law_any_of (hr.mono (by decide)) rfl T.g_law_any_of T.k_law_any_of T.b_law_any_of .nil pass0 (pa_cons (pv 0) (pa_cons (pe_ifExp (pt_val (pv 2)) (pv 1) (pe_lst (pa_cons pe_str (pa_cons pe_str (pa_cons pe_str (pa_cons pe_str pa_nil)))))) pa_nil)))))), run_jar h (fun j x hx => ?_)⟩
  try dsimp only [cxOf, List.map_cons, List.map_nil]
  obtain ⟨h1, h2⟩ := hx
  walk_at "dl"
  refine rd_neP okEq_strsN ?_
  rw [eqv_nil]
  have fin : ∀ r, r ∈ ABCD.map PyData.str → ∃ y, r = PyData.str y ∧ y ∈ ABCD := fun r hr => mem_strs hr
  cases x with
  | nil =>
    walk_at "dl"
    walk_at "k"
    exact ⟨⟨by simp, by simp⟩, fun r hr => fin r hr⟩
  | cons y ys =>
    walk_at "dl"
    walk_at "k"
    refine ⟨⟨by omega, by omega⟩, fun r hr => ?_⟩
    obtain ⟨k, rfl, k0, k1⟩ := hr
    walk_at "dl"
    refine ⟨fun hc => ?_, fun hc => ?_⟩
    · walk_at "dl"
      refine ⟨⟨by simp, by rw [List.length_map]; omega⟩, fun r hr => ?_⟩
      obtain ⟨z, rfl, hz⟩ := mem_strs hr
      exact ⟨z, rfl, h1 z hz⟩
    · walk_at "dl"
      exact ⟨⟨by simp, by simp⟩, fun r hr => fin r hr⟩
/-- a step that is no "if", as drawn -/
abbrev KINDS : List PySem.Str := ["cut", "outer", "inner", "join", "half", "split", "read", "again", "hold"]
structure GenPl (n : Nat) (s : Pl) : Prop where
  good : GoodPl n s
  word : s.1 ∈ KINDS
  hd : ∃ x r, s.2 = .str x :: r ∧ x ∈ ABCD
  parts : ∀ y ∈ s.2, (∃ x, y = .str x ∧ x ∈ ABCD) ∨ ∃ k : Nat, y = .int k ∧ k ≤ 20
  len : s.2.length ≤ 5
theorem nm_of {x : PySem.Str} (h : x ∈ ABCD) : nameD (.str x) = true := decide_eq_true ((by decide +kernel : ∀ x ∈ ABCD, x ∈ NMS) x h)
theorem from_of {lo hi k : Int} (h0 : lo ≤ k) (h1 : k ≤ hi) : fromD lo hi (.int k) = true := by
  show (decide (lo ≤ k) && decide (k ≤ hi)) = true
  rw [decide_eq_true h0, decide_eq_true h1]
  rfl
theorem pd_cut (n : Int) (r : List PyData) : plainD n "cut" r = p3 (fun a b c => nameD a && (fromD 0 (n - 1) b && fromD 3 20 c)) r := if_pos rfl
theorem pd_oi (n : Int) (r : List PyData) {w : PySem.Str} (h : w ∈ (["outer", "inner"] : List PySem.Str)) : plainD n w r = p3 (fun a b c => nameD a && (nameD b && fromD 1 20 c)) r := by
  unfold plainD
  rw [if_neg ((by decide +kernel : ∀ w ∈ (["outer", "inner"] : List PySem.Str), ¬ w = "cut") w h), if_pos h]
theorem pd_join (n : Int) (r : List PyData) : plainD n "join" r = p3 (fun a b c => nameD a && (nameD b && nameD c)) r := by
  unfold plainD
  rw [if_neg (by decide +kernel), if_neg (by decide +kernel), if_pos rfl]
theorem pd_hh (n : Int) (r : List PyData) {w : PySem.Str} (h : w ∈ (["half", "hold"] : List PySem.Str)) : plainD n w r = p2 (fun a b => nameD a && nameD b) r := by
  unfold plainD
  rw [if_neg ((by decide +kernel : ∀ w ∈ (["half", "hold"] : List PySem.Str), ¬ w = "cut") w h), if_neg ((by decide +kernel : ∀ w ∈ (["half", "hold"] : List PySem.Str), ¬ w ∈ (["outer", "inner"] : List PySem.Str)) w h), if_neg ((by decide +kernel : ∀ w ∈ (["half", "hold"] : List PySem.Str), ¬ w = "join") w h), if_pos h]
theorem pd_ra (n : Int) (r : List PyData) {w : PySem.Str} (h : w ∈ (["read", "again"] : List PySem.Str)) : plainD n w r = p2 (fun a b => nameD a && fromD 0 (n - 1) b) r := by
  unfold plainD
  rw [if_neg ((by decide +kernel : ∀ w ∈ (["read", "again"] : List PySem.Str), ¬ w = "cut") w h), if_neg ((by decide +kernel : ∀ w ∈ (["read", "again"] : List PySem.Str), ¬ w ∈ (["outer", "inner"] : List PySem.Str)) w h), if_neg ((by decide +kernel : ∀ w ∈ (["read", "again"] : List PySem.Str), ¬ w = "join") w h), if_neg ((by decide +kernel : ∀ w ∈ (["read", "again"] : List PySem.Str), ¬ w ∈ (["half", "hold"] : List PySem.Str)) w h), if_pos h]
theorem pd_split (n : Int) (r : List PyData) : plainD n "split" r = p5 (fun a b c d e => (nameD a && (nameD b && nameD c)) && (!PyData.eqv a b && (fromD 0 (n - 1) d && fromD 3 20 e))) r := by
  unfold plainD
  rw [if_neg (by decide +kernel), if_neg (by decide +kernel), if_neg (by decide +kernel), if_neg (by decide +kernel), if_neg (by decide +kernel), if_pos rfl]
abbrev PartOk (y : PyData) : Prop := (∃ x, y = .str x ∧ x ∈ ABCD) ∨ ∃ k : Nat, y = .int k ∧ k ≤ 20
theorem gen_of {n : Nat} {w x : PySem.Str} {r : List PyData} (hw : w ∈ KINDS) (hx : x ∈ ABCD) (hp : ∀ y ∈ r, PartOk y) (hl : r.length ≤ 4) (hok : plainD n w (.str x :: r) = true) : GenPl n (w, .str x :: r) := by
  have hp' : ∀ y ∈ (PyData.str x :: r), PartOk y := fun y hy => by
    rcases List.mem_cons.mp hy with h | h
    · exact .inl ⟨x, h, hx⟩
    · exact hp y h
  refine ⟨⟨fun y hy => ?_, (by decide +kernel : ∀ w ∈ KINDS, ¬ w = "if") w hw, hok⟩, hw, ⟨x, r, rfl, hx⟩, hp', by show r.length + 1 ≤ 5; omega⟩
  rcases hp' y hy with ⟨z, rfl, _⟩ | ⟨k, rfl, _⟩
  · exact .inr rfl
  · exact .inl rfl
theorem part_s {x : PySem.Str} (h : x ∈ ABCD) : PartOk (.str x) := .inl ⟨x, rfl, h⟩
theorem part_i {k : Int} (h0 : 0 ≤ k) (h1 : k ≤ 20) : PartOk (.int k) := .inr ⟨k.toNat, by rw [Int.toNat_of_nonneg h0], by omega⟩
theorem all1 {a : PyData} (h : PartOk a) : ∀ y ∈ [a], PartOk y := fun y hy => by rw [List.mem_singleton.mp hy]; exact h
theorem all2 {a b : PyData} (h : PartOk a) (h2 : PartOk b) : ∀ y ∈ [a, b], PartOk y := fun y hy => by
  rcases List.mem_cons.mp hy with z | z
  · rw [z]; exact h
  · exact all1 h2 y z
theorem all4 {a b c d : PyData} (h : PartOk a) (h2 : PartOk b) (h3 : PartOk c) (h4 : PartOk d) : ∀ y ∈ [a, b, c, d], PartOk y := fun y hy => by
  rcases List.mem_cons.mp hy with z | z
  · rw [z]; exact h
  rcases List.mem_cons.mp z with z | z
  · rw [z]; exact h2
  · exact all2 h3 h4 y z
def shapesF (p o o2 re : PySem.Str) (t m k : Int) : PySem.Str → Option PyData := fun w =>
  if w = "read" then some (.tuple [.str "read", .str o, .int t]) else if w = "hold" then some (.tuple [.str "hold", .str o, .str o2]) else if w = "again" then some (.tuple [.str "again", .str p, .int t]) else
  if w = "join" then some (.tuple [.str "join", .str p, .str o, .str o2]) else if w = "split" then some (.tuple [.str "split", .str p, .str re, .str o, .int t, .int m]) else if w = "half" then some (.tuple [.str "half", .str p, .str o]) else
  if w = "inner" then some (.tuple [.str "inner", .str p, .str o, .int k]) else if w = "outer" then some (.tuple [.str "outer", .str p, .str o, .int k]) else if w = "cut" then some (.tuple [.str "cut", .str p, .int t, .int m]) else none
theorem shapes_gen {n : Nat} {p o o2 re : PySem.Str} {t m k : Int} (hp : p ∈ ABCD) (ho : o ∈ ABCD) (ho2 : o2 ∈ ABCD) (hre : re ∈ ABCD) (hpr : ¬ p = re) (t0 : 0 ≤ t) (t1 : t < n) (hn : n ≤ 2) (m0 : 3 ≤ m) (m1 : m ≤ 20) (k0 : 1 ≤ k) (k1 : k ≤ 20) {w : PySem.Str} (hw : w ∈ KINDS) :
    ∃ s : Pl, shapesF p o o2 re t m k w = some s.d ∧ GenPl n s ∧ s.1 = w := by
  have tt : fromD 0 ((n : Int) - 1) (.int t) = true := from_of t0 (by omega)
  have mm : fromD 3 20 (.int m) = true := from_of m0 m1
  have kk : fromD 1 20 (.int k) = true := from_of k0 k1
  have np := nm_of hp
  have no := nm_of ho
  have no2 := nm_of ho2
  have nre := nm_of hre
  have pt := part_i t0 (by omega : t ≤ 20)
  have pm := part_i (by omega : 0 ≤ m) m1
  have pk := part_i (by omega : 0 ≤ k) k1
  simp only [List.mem_cons, List.not_mem_nil, or_false] at hw
  rcases hw with h | h | h | h | h | h | h | h | h <;> subst h
  · refine ⟨("cut", [.str p, .int t, .int m]), rfl, gen_of (by decide +kernel) hp (all2 pt pm) (by simp) ?_, rfl⟩
    rw [pd_cut]; show (nameD _ && (fromD _ _ _ && fromD _ _ _)) = true; rw [np, tt, mm]; rfl
  · refine ⟨("outer", [.str p, .str o, .int k]), rfl, gen_of (by decide +kernel) hp (all2 (part_s ho) pk) (by simp) ?_, rfl⟩
    rw [pd_oi _ _ (by decide +kernel)]; show (nameD _ && (nameD _ && fromD _ _ _)) = true; rw [np, no, kk]; rfl
  · refine ⟨("inner", [.str p, .str o, .int k]), rfl, gen_of (by decide +kernel) hp (all2 (part_s ho) pk) (by simp) ?_, rfl⟩
    rw [pd_oi _ _ (by decide +kernel)]; show (nameD _ && (nameD _ && fromD _ _ _)) = true; rw [np, no, kk]; rfl
  · refine ⟨("join", [.str p, .str o, .str o2]), rfl, gen_of (by decide +kernel) hp (all2 (part_s ho) (part_s ho2)) (by simp) ?_, rfl⟩
    rw [pd_join]; show (nameD _ && (nameD _ && nameD _)) = true; rw [np, no, no2]; rfl
  · refine ⟨("half", [.str p, .str o]), rfl, gen_of (by decide +kernel) hp (all1 (part_s ho)) (by simp) ?_, rfl⟩
    rw [pd_hh _ _ (by decide +kernel)]; show (nameD _ && nameD _) = true; rw [np, no]; rfl
  · refine ⟨("split", [.str p, .str re, .str o, .int t, .int m]), rfl, gen_of (by decide +kernel) hp (all4 (part_s hre) (part_s ho) pt pm) (by simp) ?_, rfl⟩
    rw [pd_split]; show ((nameD _ && (nameD _ && nameD _)) && (!PyData.eqv _ _ && (fromD _ _ _ && fromD _ _ _))) = true
    rw [np, nre, no, tt, mm, eqv_str, decide_eq_false hpr]; rfl
  · refine ⟨("read", [.str o, .int t]), rfl, gen_of (by decide +kernel) ho (all1 pt) (by simp) ?_, rfl⟩
    rw [pd_ra _ _ (by decide +kernel)]; show (nameD _ && fromD _ _ _) = true; rw [no, tt]; rfl
  · refine ⟨("again", [.str p, .int t]), rfl, gen_of (by decide +kernel) hp (all1 pt) (by simp) ?_, rfl⟩
    rw [pd_ra _ _ (by decide +kernel)]; show (nameD _ && fromD _ _ _) = true; rw [np, tt]; rfl
  · refine ⟨("hold", [.str o, .str o2]), rfl, gen_of (by decide +kernel) ho (all1 (part_s ho2)) (by simp) ?_, rfl⟩
    rw [pd_hh _ _ (by decide +kernel)]; show (nameD _ && nameD _) = true; rw [no, no2]; rfl
abbrev spLawPlain (K : PySem.W.Frag) : Sp := spJ K (fun x : (List PyData × List PyData) × List PySem.Str × List PySem.Str => [wD x.1, .list (x.2.1.map PyData.str), .list (x.2.2.map PyData.str)])
  (fun x => (x.1.1.length = 1 ∨ x.1.1.length = 2) ∧ ((∀ y ∈ x.2.1, y ∈ ABCD) ∧ x.2.1.length ≤ 100) ∧ x.2.2 ≠ [] ∧ x.2.2.length ≤ 100 ∧ ∀ k ∈ x.2.2, k ∈ KINDS) (fun x r => ∃ s : Pl, r = s.d ∧ GenPl x.1.1.length s ∧ s.1 ∈ x.2.2)
theorem ok_law_plain {P : Program} {w : World} {K : PySem.W.Frag} {mg : PySem.Str → Option Value} {base : Heap} {a : Ads} {d : Fds} (T : Txt K mg a d) : FnOk P w K mg base CX0 4 a.law_plain d.law_plain P_law_plain (spLawPlain K) := by
  have G_law_any_of := ok_law_any_of (P := P) (w := w) (base := base) T
  have G_law_dip := ok_law_dip (P := P) (w := w) (base := base) T
  have G_law_name := ok_law_name (P := P) (w := w) (base := base) T
  refine T.F_law_plain.ok sc_law_plain (fun vs H Q E h => ?_) (fun cdv A outer s H vs Q E hr h => ?_)
  · obtain ⟨j, x, ws, rfl, _, ha, _⟩ := h
    have e := ha.length
    rw [List.length_cons, e]
    rfl
  refine ⟨_, (pss_cons (ps_par rfl sc_law_plain.nd (i := 4) (j := 5) rfl rfl (by decide) rfl rfl (pa_cons (pe_call G_law_dip (hr.mono (by decide)) rfl T.g_law_dip T.k_law_dip T.b_law_dip .nil pass0 (pa_cons (pv 0) (pa_cons (pe_callB cLen (by rfl) T.len (by decide +kernel) (pa_cons (pe_ix ixTu (pv 1) pe_int (fun _ _ => rfl)) pa_nil)) pa_nil))) (pa_cons (pe_op oAddI pe_int (pe_call G_law_dip (hr.mono (by decide)) rfl T.g_law_dip T.k_law_dip T.b_law_dip .nil pass0 (pa_cons (pv 0) (pa_cons (pe_call G_law_any_of (hr.mono (by decide)) rfl T.g_law_any_of T.k_law_any_of T.b_law_any_of .nil pass0 (pa_cons (pv 0) (pa_cons (pe_lst (pa_cons pe_int (pa_cons pe_int pa_nil))) pa_nil))) pa_nil)))) pa_nil)) rfl) (pss_cons (ps_set (i := 6) sc_law_plain.nd rfl (Or.inl rfl) (pe_call G_law_any_of (hr.mono (by decide)) rfl T.g_law_any_of T.k_law_any_of T.b_law_any_of .nil pass0 (pa_cons (pv 0) (pa_cons (pe_lst (pa_cons pe_str (pa_cons pe_str (pa_cons pe_str (pa_cons pe_str pa_nil))))) pa_nil)))) (pss_cons (ps_par rfl sc_law_plain.nd (i := 7) (j := 8) rfl rfl (by decide) rfl rfl (pa_cons (pe_call G_law_name (hr.mono (by decide)) rfl T.g_law_name T.k_law_name T.b_law_name .nil pass0 (pa_cons (pv 0) (pa_cons (pv 2) pa_nil))) (pa_cons (pe_call G_law_name (hr.mono (by decide)) rfl T.g_law_name T.k_law_name T.b_law_name .nil pass0 (pa_cons (pv 0) (pa_cons (pv 2) pa_nil))) pa_nil)) rfl) (pss_cons (ps_par rfl sc_law_plain.nd (i := 9) (j := 10) rfl rfl (by decide) rfl rfl (pa_cons (pe_op oAddI pe_int (pe_call G_law_dip (hr.mono (by decide)) rfl T.g_law_dip T.k_law_dip T.b_law_dip .nil pass0 (pa_cons (pv 0) (pa_cons (pe_call G_law_any_of (hr.mono (by decide)) rfl T.g_law_any_of T.k_law_any_of T.b_law_any_of .nil pass0 (pa_cons (pv 0) (pa_cons (pe_lst (pa_cons pe_int (pa_cons pe_int pa_nil))) pa_nil))) pa_nil)))) (pa_cons (pe_ifExp (pt_cmpR (oNeP hr.units) (pv 6) pe_str rfl) pe_str pe_str) pa_nil)) rfl) (pss_cons (ps_set (i := 11) sc_law_plain.nd rfl (Or.inl rfl) (pe_disp (pps_cons pe_str (pe_tup (pa_cons pe_str (pa_cons (pv 6) (pa_cons (pv 4) (pa_cons (pv 5) pa_nil))))) (pps_cons pe_str (pe_tup (pa_cons pe_str (pa_cons (pv 6) (pa_cons (pv 7) (pa_cons (pv 9) pa_nil))))) pps_nil)) rfl rfl (by simp) (by decide))) (pss_cons (ps_asg (pe_tup (pa_cons (pe_tup (pa_cons pe_str (pa_cons (pv 6) (pa_cons (pv 7) (pa_cons (pv 9) pa_nil))))) (pa_cons (pe_tup (pa_cons pe_str (pa_cons (pv 6) (pa_cons (pv 7) pa_nil)))) pa_nil))) (pg_tup rfl (pgs_cons (pg_sub (pv 11) pe_str (set_dict (hu_of hr))) (pgs_cons (pg_sub (pv 11) pe_str (set_dict (hu_of hr))) pgs_nil)))) (pss_cons (ps_asg (pe_tup (pa_cons pe_str (pa_cons (pv 6) (pa_cons (pv 10) (pa_cons (pv 7) (pa_cons (pv 4) (pa_cons (pv 5) pa_nil))))))) (pg_sub (pv 11) pe_str (set_dict (hu_of hr)))) (pss_cons (ps_asg (pe_tup (pa_cons pe_str (pa_cons (pv 6) (pa_cons (pv 7) (pa_cons (pv 8) pa_nil))))) (pg_sub (pv 11) pe_str (set_dict (hu_of hr)))) (pss_cons (ps_asg (pe_tup (pa_cons (pe_tup (pa_cons pe_str (pa_cons (pv 6) (pa_cons (pv 4) pa_nil)))) (pa_cons (pe_tup (pa_cons pe_str (pa_cons (pv 7) (pa_cons (pv 8) pa_nil)))) pa_nil))) (pg_tup rfl (pgs_cons (pg_sub (pv 11) pe_str (set_dict (hu_of hr))) (pgs_cons (pg_sub (pv 11) pe_str (set_dict (hu_of hr))) pgs_nil)))) (pss_cons (ps_asg (pe_tup (pa_cons pe_str (pa_cons (pv 7) (pa_cons (pv 4) pa_nil)))) (pg_sub (pv 11) pe_str (set_dict (hu_of hr)))) (pss_one (ps_ret (pe_dget2 (hu_of hr) (pv 11) (pe_call G_law_any_of (hr.mono (by decide)) rfl T.g_law_any_of T.k_law_any_of T.b_law_any_of .nil pass0 (pa_cons (pv 0) (pa_cons (pv 3) pa_nil))) (pe_tup pa_nil) ⟨rfl, rfl, rfl, rfl⟩))))))))))))), run_jar h (fun j x hx => ?_)⟩
  try dsimp only [cxOf, List.map_cons, List.map_nil]
  obtain ⟨⟨ts, rest⟩, some, kinds⟩ := x
  obtain ⟨ht, hs, hk0, hk1, hk2⟩ := hx
  dsimp only at ht hs hk0 hk1 hk2
  have hn : ts.length ≤ 2 := by omega
  walk_at "dl"
  refine ⟨⟨by dsimp only; omega, by dsimp only; omega⟩, fun r hr => ?_⟩
  obtain ⟨t, rfl, t0, t1⟩ := hr
  dsimp only at t1
  walk_at "dl"
  refine ⟨⟨by simp, by simp⟩, fun r hr => ?_⟩
  have hr' : ∃ z : Int, r = .int z ∧ 1 ≤ z ∧ z ≤ 18 := by
    simp only [List.mem_cons, List.not_mem_nil, or_false] at hr
    rcases hr with h | h
    · exact ⟨8, h, by decide, by decide⟩
    · exact ⟨18, h, by decide, by decide⟩
  obtain ⟨z, rfl, z0, z1⟩ := hr'
  walk_at "dl"
  refine ⟨⟨by omega, by omega⟩, fun r hr => ?_⟩
  obtain ⟨m, rfl, m0, m1⟩ := hr
  walk_at "dl"
  refine ⟨⟨by simp, by simp⟩, fun r hr => ?_⟩
  obtain ⟨p, rfl, hp⟩ := mem_strs (xs := ABCD) hr
  walk_at "dl"
  refine ⟨some, rfl, hs, fun r hr => ?_⟩
  obtain ⟨o, rfl, ho⟩ := hr
  walk_at "dl"
  refine ⟨some, rfl, hs, fun r hr => ?_⟩
  obtain ⟨o2, rfl, ho2⟩ := hr
  walk_at "dl"
  refine ⟨⟨by simp, by simp⟩, fun r hr => ?_⟩
  have hr' : ∃ z : Int, r = .int z ∧ 1 ≤ z ∧ z ≤ 20 := by
    simp only [List.mem_cons, List.not_mem_nil, or_false] at hr
    rcases hr with h | h
    · exact ⟨3, h, by decide, by decide⟩
    · exact ⟨20, h, by decide, by decide⟩
  obtain ⟨z2, rfl, z3, z4⟩ := hr'
  walk_at "dl"
  refine ⟨⟨by omega, by omega⟩, fun r hr => ?_⟩
  obtain ⟨k, rfl, k0, k1⟩ := hr
  refine rd_addI ?_
  refine ea_cons ?_
  refine EvD.mono (Φ := fun d => ∃ re, d = .str re ∧ re ∈ ABCD ∧ ¬ p = re) ?_ (fun d hd => ?_)
  · walk_at "dl"
    refine rd_neP okEq_ss ?_
    rw [eqv_str]
    refine exB ⟨fun h => ?_, fun h => ?_⟩
    · walk_at "dl"
      refine ⟨by decide +kernel, ?_⟩
      simpa using h
    · walk_at "dl"
      have h1 : p = "d" := by simpa using h
      refine ⟨by decide +kernel, ?_⟩
      rw [h1]
      decide +kernel
  obtain ⟨re, rfl, hre, hpre⟩ := hd
  walk_at "dl"
  refine ⟨by simp, sb_put ["inner", "half"] (by decide) (fun M' => ?_)⟩
  walk_at "dl"
  refine ⟨rfl, by simp, ?_⟩
  refine sb_put1 (by decide) (fun M' => ?_)
  walk_at "dl"
  refine sb_put1 (by decide) (fun M' => ?_)
  walk_at "dl"
  refine sb_put ["again", "hold"] (by decide) (fun M' => ?_)
  walk_at "dl"
  refine ⟨rfl, by simp, ?_⟩
  refine sb_put1 (by decide) (fun M' => ?_)
  walk_at "dl"
  refine sb_doneE (shapesF p o o2 re t (3 + m) (1 + k)) rfl ?_
  walk_at "dl"
  refine ed_dget2 rfl ?_
  walk_at "dl"
  refine ⟨⟨fun z => hk0 (List.map_eq_nil_iff.mp z), by rw [List.length_map]; dsimp only; omega⟩, fun r hr => ?_⟩
  obtain ⟨w, rfl, hw⟩ := mem_strs hr
  walk_at "dl"
  obtain ⟨s, e1, e2, e3⟩ := shapes_gen (n := ts.length) (k := 1 + k) (m := 3 + m) hp ho ho2 hre hpre t0 t1 hn (by omega) (by omega) (by omega) (by omega) (hk2 w hw)
  rw [e1]
  exact ⟨s, rfl, e2, by rw [e3]; exact hw⟩
end CL
set_option Elab.async false
set_option linter.all false
set_option maxRecDepth 100000
set_option maxHeartbeats 2000000
namespace CL
open PySem L2 DL
local macro_rules | `(tactic| walk_at "dl1") => `(tactic| first
  | ((with_reducible refine' ed_var ?hv ?_); (case hv => exact rfl))
  | with_reducible refine ed_int ?_
  | with_reducible refine ed_str ?_
  | with_reducible refine ed_bl ?_
  | with_reducible refine ed_non ?_
  | ((with_reducible refine' ed_jar0 ?hj ?_); (case hj => exact rfl); intro x hx)
  | ((with_reducible refine' ed_jar1 ?hj ?_); (case hj => exact rfl); intro x hx hx2)
  | ((with_reducible refine' ed_callJ ?hj ?_); (case hj => exact rfl))
  | ((with_reducible refine' sd_jset0 ?hj ?_); (case hj => exact rfl))
  | ((with_reducible refine' sd_jset1 ?hj ?_); (case hj => exact rfl))
  | with_reducible refine ed_op ?_
  | with_reducible refine ea_cons ?_
  | with_reducible refine ea_nil ?_
  | with_reducible refine ed_isi ?_
  | with_reducible refine ed_cb ?_
  | with_reducible refine ed_zip ?_
  | with_reducible refine ed_sset ?_
  | with_reducible refine ed_rg1 ?_
  | with_reducible refine ed_rg2 ?_
  | with_reducible refine ed_call ?_
  | with_reducible refine ed_tup ?_
  | with_reducible refine ed_lst ?_
  | with_reducible refine ed_andV ?_
  | with_reducible refine ed_orV ?_
  | with_reducible refine ed_notV ?_
  | with_reducible refine ed_chain ?_
  | with_reducible refine ed_if ?_
  | with_reducible refine ed_un ?_
  | with_reducible refine ed_sl ?_
  | with_reducible refine ed_revL ?_
  | with_reducible refine ed_m1 ?_
  | with_reducible refine eo_no ?_
  | with_reducible refine eo_some ?_
  | with_reducible refine et_test ?_
  | with_reducible refine et_B ?_
  | with_reducible refine et_and ?_
  | with_reducible refine et_or ?_
  | with_reducible refine et_not ?_
  | with_reducible refine et_yes ?_
  | with_reducible refine sb_start (Nat.le_of_ble_eq_true rfl) (fun M' => ?_)
  | with_reducible refine sd_seq ?_
  | with_reducible refine ep_cons ?_
  | with_reducible refine ep_nil ?_
  | with_reducible refine sd_next ?_
  | with_reducible refine sd_set ?_
  | with_reducible refine sd_ret ?_
  | with_reducible refine sd_drop ?_
  | with_reducible refine sd_if ?_
  | with_reducible refine sd_par ?_
  | with_reducible refine sd_par3 ?_
  | with_reducible refine rd_addI ?_
  | with_reducible refine rd_subI ?_
  | with_reducible refine rd_ltI ?_
  | with_reducible refine rd_leI ?_
  | with_reducible refine rd_gtI ?_
  | with_reducible refine rd_geI ?_
  | with_reducible refine rd_isNo ?_
  | with_reducible refine rd_notNo ?_
  | with_reducible refine cd_lenL ?_
  | with_reducible refine cd_lenT ?_
  | with_reducible refine cd_abs ?_
  | with_reducible refine cd_intI ?_
  | with_reducible refine cd_intB ?_
  | with_reducible refine cd_strS ?_
  | with_reducible refine cd_listT ?_
  | with_reducible refine cd_tupleL ?_
  | with_reducible refine sd_L ?_
  | with_reducible refine sd_T ?_
  | with_reducible refine gd_name ?_
  | ((with_reducible refine' ed_lcL1y ?hv ?_); (case hv => exact rfl))
  | ((with_reducible refine' ed_lcT1y ?hv ?_); (case hv => exact rfl))
  | ((with_reducible refine' ed_lcL1 ?hv ?_); (case hv => exact rfl))
  | ((with_reducible refine' ed_lcT1 ?hv ?_); (case hv => exact rfl))
  | with_reducible refine exB ?_
  | with_reducible refine exI ?_
  | with_reducible refine exS ?_
  | with_reducible refine exL ?_
  | with_reducible refine exT ?_
  | with_reducible refine exLs ?_
  | with_reducible refine exIs ?_
  | with_reducible refine ex2 ?_
  | with_reducible refine ex3 ?_
  | with_reducible refine ln0 ?_
  | with_reducible refine ln1 ?_
  | with_reducible refine ln2 ?_
  | with_reducible refine ln3 ?_
  | with_reducible refine ln4 ?_
  | with_reducible refine ln5 ?_
  | with_reducible refine ln6 ?_
  | with_reducible refine ln7 ?_
  | with_reducible refine ln8 ?_
  | with_reducible refine ln9 ?_
  | with_reducible refine ln10 ?_
  | with_reducible refine ln11 ?_
  | with_reducible refine ln12 ?_
  | with_reducible refine cTT ?_
  | with_reducible refine cFT ?_
  | with_reducible refine cTF ?_
  | with_reducible refine cFF ?_
  | with_reducible refine nTT ?_
  | with_reducible refine nFT ?_
  | with_reducible refine nTF ?_
  | with_reducible refine nFF ?_
  | refine rd_ixT0 ?_
  | refine rd_ixL0 ?_
  | refine rd_ixT rfl ?_
  | refine rd_ixL rfl ?_)
local macro_rules | `(tactic| walk_at "dl") => `(tactic| repeat (walk_at "dl1"))
local macro_rules | `(tactic| walk_at "call1") => `(tactic| ((refine ⟨_, rfl, ?hcd, fun r hr => ?hcr⟩); (case hcd => first | assumption | rfl); (case hcr => (subst hr; try walk_at "dl"))))
local macro_rules | `(tactic| walk_at "and") => `(tactic| (refine ed_andE ?_; try walk_at "dl"))
local macro_rules | `(tactic| walk_at "k") => `(tactic| ((first | refine ct rfl ?_ | refine cf rfl ?_ | refine ct' rfl ?_ | refine cf' rfl ?_); try walk_at "dl"))
/-! ### the script drawn -/
abbrev KL : List PySem.Str := ["outer", "inner", "join", "half", "split", "read", "again", "again", "hold", "hold", "hold", "cut"]
abbrev spKinds (K : PySem.W.Frag) : Sp := spP K (fun _ : Unit => []) (fun _ => True) (fun _ r => r = .list (KL.map PyData.str))
theorem ok_law_kinds {P : Program} {w : World} {K : PySem.W.Frag} {mg : PySem.Str → Option Value} {base : Heap} {a : Ads} {d : Fds} (T : Txt K mg a d) : FnOk P w K mg base CX0 1 a.law_kinds d.law_kinds P_law_kinds (spKinds K) := by
  refine T.F_law_kinds.ok sc_law_kinds (fun vs H Q E h => ?_) (fun cdv A outer s H vs Q E hr h => ?_)
  · obtain ⟨vol, x, _, ha, _⟩ := h
    have e := ha.length
    rw [e]
    rfl
  refine ⟨_, (pss_one (ps_ret (pe_lst (pa_cons pe_str (pa_cons pe_str (pa_cons pe_str (pa_cons pe_str (pa_cons pe_str (pa_cons pe_str (pa_cons pe_str (pa_cons pe_str (pa_cons pe_str (pa_cons pe_str (pa_cons pe_str (pa_cons pe_str pa_nil))))))))))))))), run_pure h (fun M x hx => ?_)⟩
  try dsimp only [cxOf, List.map_cons, List.map_nil]
  walk_at "dl"
  rfl
abbrev HCA : Pl := ("half", [.str "c", .str "a"])
def GenStp (n : Nat) : Stp → Prop
  | .pl s => GenPl n s
  | .iff a b w b1 b2 => a ∈ ABCD ∧ b ∈ ABCD ∧ w ∈ SEENS ∧ (∃ s, b1 = [s] ∧ GenPl n s ∧ ¬ s.1 = "read") ∧ (b2 = [] ∨ b2 = [HCA])
structure GenSs (n : Nat) (ss : List Stp) : Prop where
  gen : ∀ s ∈ ss, GenStp n s
  len : ss.length ≤ 6
  all : (allW ss).length ≤ 10
  reads : (ss.map Stp.hd).count ("read" : PySem.Str) ≤ 1
def isRead : PyData → Bool
  | .tuple (.str s :: _) => decide (s = "read")
  | _ => false
theorem plain_of {r : List PyData} (h : ∀ y ∈ r, PartOk y) : PyData.plainAll r = true := by
  induction r with
  | nil => rfl
  | cons a l ih =>
    have : a.plain = true := by rcases h a (by simp) with ⟨x, rfl, _⟩ | ⟨k, rfl, _⟩ <;> rfl
    simp [PyData.plainAll, this, ih fun y hy => h y (by simp [hy])]
theorem gen_plain {n : Nat} {s : Pl} (h : GenPl n s) : s.d.plain = true := by
  show PyData.plainAll (.str s.1 :: s.2) = true
  simp [PyData.plainAll, PyData.plain, plain_of h.parts]
theorem stp_plain {n : Nat} {s : Stp} (h : GenStp n s) : s.d.plain = true := by
  cases s with
  | pl s => exact gen_plain h
  | iff a b w b1 b2 =>
    obtain ⟨_, _, _, ⟨s, rfl, g, _⟩, h2⟩ := h
    have e := gen_plain g
    have e2 : PyData.plainAll (b2.map Pl.d) = true := by
      rcases h2 with rfl | rfl
      · rfl
      · rfl
    show PyData.plainAll [.str "if", .str a, .str b, .str w, .tuple ([s].map Pl.d), .tuple (b2.map Pl.d)] = true
    simp [PyData.plainAll, PyData.plain, e, e2]
theorem plainAll_mem {l : List PyData} (h : ∀ x ∈ l, x.plain = true) : PyData.plainAll l = true := by
  induction l with
  | nil => rfl
  | cons a l ih => simp [PyData.plainAll, h a (by simp), ih fun x hx => h x (by simp [hx])]
theorem okEq_nil {l : List PyData} (h : ∀ x ∈ l, x.plain = true) : okEq (.list l) (.list []) := ⟨plainAll_mem h, rfl, by simp [PyData.depth, PyData.depthAll]⟩
theorem reads_nil (ss : List Stp) : (((ss.map Stp.d).filter isRead).map id).isEmpty = decide ((ss.map Stp.hd).count ("read" : PySem.Str) = 0) := by
  rw [List.map_id]
  induction ss with
  | nil => rfl
  | cons s ss ih =>
    have e : isRead s.d = decide (s.hd = "read") := by cases s <;> rfl
    rw [List.map_cons, List.filter_cons, List.map_cons, List.count_cons, e]
    by_cases h : s.hd = "read"
    · rw [decide_eq_true h, if_pos rfl]
      simp [h]
    · rw [decide_eq_false h, if_neg Bool.false_ne_true, ih]
      simp [h]
abbrev spLawScript (K : PySem.W.Frag) : Sp := spJ K (fun x : (List PyData × List PyData) × Int × List PySem.Str => [wD x.1, .int x.2.1, .list (x.2.2.map PyData.str)])
  (fun x => (x.1.1.length = 1 ∨ x.1.1.length = 2) ∧ (0 ≤ x.2.1 ∧ x.2.1 ≤ 4) ∧ x.2.2 ≠ [] ∧ x.2.2.length ≤ 100 ∧ ∀ k ∈ x.2.2, k ∈ KINDS) (fun x r => ∃ ss : List Stp, r = .tuple (ss.map Stp.d) ∧ GenSs x.1.1.length ss)
theorem StD.mono {M : Md} {K : PySem.W.Frag} {Ez : Addr → Hp → Prop} {t : TS} {ρ : Rho} {D : EndD} {Ψ : Rho → Prop} (h : StD M K Ez t ρ { D with nx := Ψ }) (k : ∀ ρ', Ψ ρ' → D.nx ρ') : StD M K Ez t ρ D :=
  fun Ds σ H e i p => h Ds σ H e i ⟨fun σ' H' ρ' r e' q => p.nx σ' H' ρ' r e' (k ρ' q), p.rt, p.bk, p.ct, p.rz⟩
def c0 : Pl := ("cut", [.str "a", .int 0, .int 10])
theorem c0_gen {n : Nat} (h : n = 1 ∨ n = 2) : GenPl n c0 := by
  refine gen_of (by decide +kernel) (by decide +kernel) (all2 (part_i (by decide) (by decide)) (part_i (by decide) (by decide))) (by simp) ?_
  rw [pd_cut]
  show (nameD (.str "a") && (fromD 0 ((n : Int) - 1) (.int 0) && fromD 3 20 (.int 10))) = true
  rw [nm_of (by decide +kernel), from_of (Int.le_refl 0) (by omega), from_of (by decide) (by decide)]
  rfl
theorem ok_law_script {P : Program} {w : World} {K : PySem.W.Frag} {mg : PySem.Str → Option Value} {base : Heap} {a : Ads} {d : Fds} (T : Txt K mg a d) : FnOk P w K mg base CX0 5 a.law_script d.law_script P_law_script (spLawScript K) := by
  have G_law_dip := ok_law_dip (P := P) (w := w) (base := base) T
  have G_law_plain := ok_law_plain (P := P) (w := w) (base := base) T
  have G_law_any_of := ok_law_any_of (P := P) (w := w) (base := base) T
  have G_law_name := ok_law_name (P := P) (w := w) (base := base) T
  refine T.F_law_script.ok sc_law_script (fun vs H Q E h => ?_) (fun cdv A outer s H vs Q E hr h => ?_)
  · obtain ⟨j, x, ws, rfl, _, ha, _⟩ := h
    have e := ha.length
    rw [List.length_cons, e]
    rfl
  refine ⟨_, (pss_cons (ps_par rfl sc_law_script.nd (i := 4) (j := 5) rfl rfl (by decide) rfl rfl (pa_cons (pe_tup (pa_cons (pe_tup (pa_cons pe_str (pa_cons pe_str (pa_cons pe_int (pa_cons pe_int pa_nil))))) (pa_cons (pe_call G_law_plain (hr.mono (by decide)) rfl T.g_law_plain T.k_law_plain T.b_law_plain .nil pass0 (pa_cons (pv 0) (pa_cons (pv 1) (pa_cons (pe_lst pa_nil) (pa_cons (pe_lst (pa_cons pe_str pa_nil)) pa_nil))))) pa_nil))) (pa_cons (pe_lst (pa_cons pe_str (pa_cons pe_str pa_nil))) pa_nil)) rfl) (pss_cons (ps_for PassesOwn.never rfl (pi_range1 rfl T.range (pa_cons (pe_call G_law_dip (hr.mono (by decide)) rfl T.g_law_dip T.k_law_dip T.b_law_dip .nil pass0 (pa_cons (pv 0) (pa_cons (pe_op oAddI (pv 2) pe_int) pa_nil))) pa_nil)) (pg_name (i := 6) sc_law_script.nd rfl (Or.inl rfl)) (pss_cons (ps_set (i := 7) sc_law_script.nd rfl (Or.inl rfl) (pe_call G_law_plain (hr.mono (by decide)) rfl T.g_law_plain T.k_law_plain T.b_law_plain .nil pass0 (pa_cons (pv 0) (pa_cons (pv 1) (pa_cons (pv 5) (pa_cons (pv 3) pa_nil)))))) (pss_cons (ps_if (PW.pt (pw_and (pt_cmpR (oEqP hr.units) (pe_ix ixTu (pv 7) pe_int (fun _ _ => rfl)) pe_str rfl) (pw_and1 (pt_cmpR (oNeP hr.units) (pe_lc (own := [("_law_one", 10)]) (g := gName 10) rfl sc_law_script.nd (pi_tup (pv 4)) (blkOk_by (own := [("_law_one", 10)]) (N := N_law_script) (sc := defScope s_law_script) (by decide +kernel)) (fun _ _ _ _ _ => pg_name (i := 10) sc_law_script.nd rfl (Or.inl rfl)) (fun _ _ _ _ _ => (pts_one (pt_cmpR (r := rEqP K) (oEqP hr.units) (pe_ix (r := rIxTu K) ixTu (pv 10) pe_int (fun _ _ => rfl)) pe_str rfl))) (fun _ _ _ _ _ => (pv 10))) (pe_lst pa_nil) rfl)))) (pss_one (ps_set (i := 7) sc_law_script.nd rfl (Or.inl rfl) (pe_tup (pa_cons pe_str (pa_cons (pe_ix ixTu (pv 7) pe_int (fun _ _ => rfl)) (pa_cons (pe_call G_law_name (hr.mono (by decide)) rfl T.g_law_name T.k_law_name T.b_law_name .nil pass0 (pa_cons (pv 0) (pa_cons (pv 5) pa_nil))) pa_nil)))))) pss_nil) (pss_cons (ps_set (i := 5) sc_law_script.nd rfl (Or.inl rfl) (SX.pe_sortedSet rfl rfl T.sorted rfl T.set (pa_cons (pe_op oCatL (pe_op oCatL (pv 5) (pe_op oRepL (pe_lst (pa_cons pe_str pa_nil)) (pe_callTy cInt (by rfl) T.int (by decide +kernel) (pa_cons (pe_cmpR (oEqP hr.units) (pe_ix ixTu (pv 7) pe_int (fun _ _ => rfl)) pe_str rfl) pa_nil)))) (pe_lst (pa_cons (pe_ix ixTu (pv 7) pe_int (fun _ _ => rfl)) pa_nil))) pa_nil))) (pss_cons (ps_if (PW.pt (pw_and (pt_cmpR (oEqP hr.units) (pe_call G_law_dip (hr.mono (by decide)) rfl T.g_law_dip T.k_law_dip T.b_law_dip .nil pass0 (pa_cons (pv 0) (pa_cons pe_int pa_nil))) pe_int rfl) (pw_and (pt_cmpR oLtI (pe_callB cLen (by rfl) T.len (by decide +kernel) (pa_cons (pv 4) pa_nil)) pe_int rfl) (pw_and1 (pt_cmpR (oNeP hr.units) (pe_ix ixTu (pv 7) pe_int (fun _ _ => rfl)) pe_str rfl))))) (pss_cons (ps_set (i := 8) sc_law_script.nd rfl (Or.inl rfl) (pe_call G_law_any_of (hr.mono (by decide)) rfl T.g_law_any_of T.k_law_any_of T.b_law_any_of .nil pass0 (pa_cons (pv 0) (pa_cons (pe_lst (pa_cons pe_str (pa_cons pe_str (pa_cons pe_str pa_nil)))) pa_nil)))) (pss_cons (ps_set (i := 9) sc_law_script.nd rfl (Or.inl rfl) (pe_op ZM.op_repT1 (pe_tup (pa_cons (pe_tup (pa_cons pe_str (pa_cons pe_str (pa_cons pe_str pa_nil)))) pa_nil)) (pe_call G_law_dip (hr.mono (by decide)) rfl T.g_law_dip T.k_law_dip T.b_law_dip .nil pass0 (pa_cons (pv 0) (pa_cons pe_int pa_nil))))) (pss_one (ps_set (i := 7) sc_law_script.nd rfl (Or.inl rfl) (pe_tup (pa_cons pe_str (pa_cons (pe_call G_law_name (hr.mono (by decide)) rfl T.g_law_name T.k_law_name T.b_law_name .nil pass0 (pa_cons (pv 0) (pa_cons (pv 5) pa_nil))) (pa_cons pe_str (pa_cons (pv 8) (pa_cons (pe_tup (pa_cons (pv 7) pa_nil)) (pa_cons (pv 9) pa_nil))))))))))) pss_nil) (pss_one (ps_set (i := 4) sc_law_script.nd rfl (Or.inl rfl) (pe_op oCatT (pv 4) (pe_tup (pa_cons (pv 7) pa_nil)))))))))) (pss_one (ps_ret (pv 4))))), run_jar h (fun j x hx => ?_)⟩
  try dsimp only [cxOf, List.map_cons, List.map_nil]
  obtain ⟨⟨ts, rest⟩, most, kinds⟩ := x
  obtain ⟨ht, hm, hk0, hk1, hk2⟩ := hx
  dsimp only at ht hm hk0 hk1 hk2
  have hn : ts.length ≤ 2 := by omega
  walk_at "dl"
  refine ⟨((ts, rest), [], ["cut"]), rfl, ⟨ht, ⟨fun y hy => (by cases hy), by simp⟩, by simp, by simp, (by decide +kernel : ∀ k ∈ (["cut"] : List PySem.Str), k ∈ KINDS)⟩, fun r hr => ?_⟩
  obtain ⟨s1, rfl, g1, w1⟩ := hr
  have w1' : s1.1 = "cut" := List.mem_singleton.mp w1
  dsimp only at g1
  walk_at "dl"
  refine sd_forR ?_
  walk_at "dl"
  refine ⟨⟨by dsimp only; omega, by dsimp only; omega⟩, fun r hr => ?_⟩
  obtain ⟨k, rfl, k0, k1⟩ := hr
  dsimp only at k1
  walk_at "dl"
  refine ⟨by omega, fun i ρ' => ∃ (ss : List Stp) (some : List PySem.Str) (e6 e7 e8 e9 e10 : Ent), ρ' = [.adr j, .dat (wD (ts, rest)), .dat (.int most), .dat (.list (kinds.map PyData.str)), .dat (.tuple (ss.map Stp.d)), .dat (.list (some.map PyData.str)), e6, e7, e8, e9, e10] ∧
    (∀ s ∈ ss, GenStp ts.length s) ∧ ss.length = 2 + i ∧ (allW ss).length ≤ 2 + i + 2 * min i 2 ∧ (ss.map Stp.hd).count ("read" : PySem.Str) ≤ 1 ∧ (∀ y ∈ some, y ∈ ABCD) ∧ some.length ≤ 2 + 2 * i, ?_, fun i ρ' hi hI => ?_, fun ρ' hI => ?_⟩
  · refine ⟨[.pl c0, .pl s1], ["a", "b"], _, _, _, _, _, rfl, fun s hs => ?_, rfl, by simp [allW, Stp.subs], ?_, by decide +kernel, by simp⟩
    · rcases List.mem_cons.mp hs with h | h
      · rw [h]; exact c0_gen ht
      · rw [List.mem_singleton.mp h]; exact g1
    · show List.count (PySem.Str.ofString "read") [PySem.Str.ofString "cut", s1.1] ≤ 1
      rw [w1']
      decide +kernel
  · obtain ⟨ss, some, e6, e7, e8, e9, e10, rfl, hg, hl, ha, hr1, hso, hsl⟩ := hI
    walk_at "dl"
    refine ⟨((ts, rest), some, kinds), rfl, ⟨ht, ⟨hso, by dsimp only; omega⟩, hk0, hk1, hk2⟩, fun r hr => ?_⟩
    obtain ⟨st, rfl, gs, _⟩ := hr
    dsimp only at gs
    refine sd_seq ?_
    refine StD.mono (Ψ := fun ρ' => ∃ (w x : PySem.Str) (r : List PyData) (e10 : Ent), ρ' = [.adr j, .dat (wD (ts, rest)), .dat (.int most), .dat (.list (kinds.map PyData.str)), .dat (.tuple (ss.map Stp.d)), .dat (.list (some.map PyData.str)), .dat (.int i), .dat (.tuple (.str w :: .str x :: r)), e8, e9, e10] ∧
      GenPl ts.length (w, .str x :: r) ∧ x ∈ ABCD ∧ (w = "read" → (ss.map Stp.hd).count ("read" : PySem.Str) = 0)) ?_ (fun ρ' hρ => ?_)
    · obtain ⟨w, r0⟩ := st
      obtain ⟨x, r, e, hx⟩ := gs.hd
      dsimp only at e
      subst e
      dsimp only [Pl.d]
      walk_at "dl"
      refine rd_eqP okEq_ss ?_
      rw [eqv_str]
      refine exB ⟨fun hc => ?_, fun hc => ?_⟩
      · have hw : w = "read" := of_decide_eq_true hc
        walk_at "dl"
        refine ⟨by rw [List.length_map]; omega, isRead, id, fun y hy M' => ?_, ?_⟩
        · obtain ⟨s, hs, rfl⟩ := List.mem_map.mp hy
          have e1 : ∃ u v, s.d = .tuple (.str u :: v) := by cases s <;> exact ⟨_, _, rfl⟩
          obtain ⟨u, v, e1⟩ := e1
          rw [e1]
          walk_at "dl"
          refine rd_eqP okEq_ss ?_
          rw [eqv_str]
          refine exB ⟨rfl, fun _ => ?_⟩
          walk_at "dl"
          rfl
        · walk_at "dl"
          refine rd_neP (okEq_nil fun y hy => ?_) ?_
          · rw [List.map_id] at hy
            obtain ⟨s, hs, rfl⟩ := List.mem_map.mp (List.mem_filter.mp hy).1
            exact stp_plain (hg s hs)
          · rw [eqv_nil, reads_nil]
            refine exB ⟨fun h0 => ?_, fun h0 => ?_⟩
            · walk_at "dl"
              refine rd_ixTi (by decide) (by show 1 < _; simp) ?_
              walk_at "dl"
              refine ⟨some, rfl, ⟨hso, by omega⟩, fun r hr => ?_⟩
              obtain ⟨y, rfl, hy⟩ := hr
              walk_at "dl"
              refine ⟨"hold", x, [.str y], _, rfl, gen_of (by decide +kernel) hx (all1 (part_s hy)) (by simp) ?_, hx, fun z => absurd z (by decide +kernel)⟩
              rw [pd_hh _ _ (by decide +kernel)]
              show (nameD (.str x) && nameD (.str y)) = true
              rw [nm_of hx, nm_of hy]
              rfl
            · walk_at "dl"
              exact ⟨w, x, r, _, rfl, gs, hx, fun _ => by simpa using h0⟩
      · have hw : ¬ w = "read" := of_decide_eq_false hc
        walk_at "dl"
        exact ⟨w, x, r, _, rfl, gs, hx, fun z => absurd z hw⟩
    obtain ⟨w, x, r, e10, rfl, gs, hx, hrd⟩ := hρ
    walk_at "dl"
    refine rd_eqP okEq_ss ?_
    rw [eqv_str]
    walk_at "dl"
    have hrep : ∀ b : Bool, (0 : Int) ≤ (if b = true then (1 : Int) else 0) ∧ (if b = true then (1 : Int) else 0) ≤ 1 ∧ ∃ ds' : List PySem.Str, (List.replicate (if b = true then (1 : Int) else 0).toNat [PyData.str "d"]).flatten = ds'.map PyData.str ∧ ds'.length ≤ 1 ∧ ∀ y ∈ ds', y ∈ ABCD := by
      intro b
      cases b
      · exact ⟨by decide, by decide, [], rfl, by simp, fun y hy => by cases hy⟩
      · exact ⟨by decide, by decide, ["d"], rfl, by simp, (by decide +kernel : ∀ y ∈ (["d"] : List PySem.Str), y ∈ ABCD)⟩
    obtain ⟨q0, q1, ds', q2, q3, q4⟩ := hrep (decide (w = "split"))
    have hi2 : i < 4 := by omega
    have hmin : min i 2 ≤ i := Nat.min_le_left _ _
    refine rd_repL q0 (by show 1 * _ ≤ _; omega) (by omega) ?_
    rw [q2]
    refine rd_catL (by rw [List.length_map, List.length_map]; omega) ?_
    walk_at "dl"
    refine rd_ixTi (by decide) (by show 1 < _; simp) ?_
    walk_at "dl"
    refine rd_catL (by rw [List.length_append, List.length_map, List.length_map]; simp only [List.length_cons, List.length_nil]; omega) ?_
    walk_at "dl"
    refine ⟨some ++ ds' ++ [x], by rw [List.map_append, List.map_append]; rfl, by simp only [List.length_append, List.length_cons, List.length_nil]; omega, fun ys hy1 hy2 => ?_⟩
    have hys : ∀ y ∈ ys, y ∈ ABCD := fun y hy => by
      have := hy1 y hy
      rcases List.mem_append.mp this with h | h
      · rcases List.mem_append.mp h with h | h
        · exact hso y h
        · exact q4 y h
      · rw [List.mem_singleton.mp h]; exact hx
    have hyl : ys.length ≤ 2 + 2 * (i + 1) := by simp only [List.length_append, List.length_cons, List.length_nil] at hy2; omega
    refine sd_seq ?_
    refine StD.mono (Ψ := fun ρ' => ∃ (s : Stp) (e8 e9 e10 : Ent), ρ' = [.adr j, .dat (wD (ts, rest)), .dat (.int most), .dat (.list (kinds.map PyData.str)), .dat (.tuple (ss.map Stp.d)), .dat (.list (ys.map PyData.str)), .dat (.int i), .dat s.d, e8, e9, e10] ∧
      GenStp ts.length s ∧ s.subs.length ≤ 2 ∧ (s.subs ≠ [] → ss.length < 4) ∧ (s.hd = "read" → (ss.map Stp.hd).count ("read" : PySem.Str) = 0)) ?_ (fun ρ' hρ => ?_)
    · have keep : ∃ (s : Stp) (e8' e9' e10' : Ent), ([.adr j, .dat (wD (ts, rest)), .dat (.int most), .dat (.list (kinds.map PyData.str)), .dat (.tuple (ss.map Stp.d)), .dat (.list (ys.map PyData.str)), .dat (.int i), .dat (.tuple (.str w :: .str x :: r)), e8, e9, e10] : Rho) = [.adr j, .dat (wD (ts, rest)), .dat (.int most), .dat (.list (kinds.map PyData.str)), .dat (.tuple (ss.map Stp.d)), .dat (.list (ys.map PyData.str)), .dat (.int i), .dat s.d, e8', e9', e10'] ∧
          GenStp ts.length s ∧ s.subs.length ≤ 2 ∧ (s.subs ≠ [] → ss.length < 4) ∧ (s.hd = "read" → (ss.map Stp.hd).count ("read" : PySem.Str) = 0) :=
        ⟨.pl (w, .str x :: r), e8, e9, e10, rfl, gs, Nat.zero_le _, fun z => absurd rfl z, hrd⟩
      walk_at "dl"
      refine ⟨⟨by omega, by omega⟩, fun r' hr' => ?_⟩
      obtain ⟨k7, rfl, _, _⟩ := hr'
      walk_at "dl"
      refine rd_eqP okEq_ii ?_
      rw [eqv_int]
      refine exB ⟨fun h1 => ?_, fun h1 => ?_⟩
      · walk_at "dl"
        rw [List.length_map]
        refine ⟨fun h2 => ?_, fun h2 => ?_⟩
        · have h4 : ss.length < 4 := by have := of_decide_eq_true h2; omega
          walk_at "dl"
          refine rd_neP okEq_ss ?_
          rw [eqv_str]
          refine exB ⟨fun h3 => ?_, fun h3 => ?_⟩
          · have hnr : ¬ w = "read" := by simpa using h3
            walk_at "dl"
            refine ⟨⟨by simp, by simp⟩, fun r' hr' => ?_⟩
            obtain ⟨seen, rfl, hseen⟩ := mem_strs (xs := SEENS) hr'
            walk_at "dl"
            refine ⟨⟨by omega, by omega⟩, fun r' hr' => ?_⟩
            obtain ⟨k2, rfl, k20, k21⟩ := hr'
            refine rd_repT1 (by simp) (by omega) ?_
            walk_at "dl"
            refine ⟨ys, rfl, ⟨hys, by omega⟩, fun r' hr' => ?_⟩
            obtain ⟨y, rfl, hy⟩ := hr'
            walk_at "dl"
            have hb2 : ∃ b2 : List Pl, (if k2 = 1 then [PyData.tuple [PyData.str "half", PyData.str "c", PyData.str "a"]] else []) = b2.map Pl.d ∧ (b2 = [] ∨ b2 = [HCA]) := by
              split
              · exact ⟨[HCA], rfl, .inr rfl⟩
              · exact ⟨[], rfl, .inl rfl⟩
            obtain ⟨b2, e2, hb2⟩ := hb2
            rw [e2]
            refine ⟨.iff y "a" seen [(w, .str x :: r)] b2, _, _, _, rfl, ⟨hy, by decide +kernel, hseen, ⟨_, rfl, gs, hnr⟩, hb2⟩, ?_, fun _ => h4, fun z => absurd z (by show ¬ (PySem.Str.ofString "if" = PySem.Str.ofString "read"); decide +kernel)⟩
            rcases hb2 with h | h <;> rw [h] <;> simp [Stp.subs]
          · walk_at "dl"
            exact keep
        · walk_at "dl"
          exact keep
      · walk_at "dl"
        exact keep
    obtain ⟨s, e8', e9', e10', rfl, hgs, hs2, hs4, hsr⟩ := hρ
    walk_at "dl"
    refine rd_catT (by rw [List.length_map]; simp only [List.length_cons, List.length_nil]; omega) ?_
    walk_at "dl"
    have em : ss.map Stp.d ++ [s.d] = (ss ++ [s]).map Stp.d := by rw [List.map_append]; rfl
    rw [em]
    refine ⟨ss ++ [s], ys, _, _, _, _, _, rfl, fun z hz => ?_, by simp [hl]; omega, ?_, ?_, hys, hyl⟩
    · rcases List.mem_append.mp hz with h | h
      · exact hg z h
      · rw [List.mem_singleton.mp h]; exact hgs
    · have e1 : (allW (ss ++ [s])).length = (allW ss).length + (1 + s.subs.length) := by
        show ((ss ++ [s]).flatMap _).length = _
        rw [List.flatMap_append, List.length_append]
        congr 1
        show ([s].flatMap _).length = _
        simp
        omega
      rw [e1]
      by_cases hsub : s.subs = []
      · rw [hsub]
        simp only [List.length_nil]
        omega
      · have := hs4 hsub
        omega
    · rw [List.map_append, List.count_append]
      show _ + List.count _ [s.hd] ≤ 1
      by_cases hread : s.hd = "read"
      · rw [hsr hread, hread]
        decide +kernel
      · have : List.count (PySem.Str.ofString "read") [s.hd] = 0 := by
          rw [List.count_singleton]
          simp [hread]
        rw [this]
        omega
  · obtain ⟨ss, some, e6, e7, e8, e9, e10, rfl, hg, hl, ha, hr1, hso, hsl⟩ := hI
    walk_at "dl"
    exact ⟨ss, rfl, hg, by omega, by omega, hr1⟩
end CL
set_option Elab.async false
set_option linter.all false
set_option maxRecDepth 100000
set_option maxHeartbeats 2000000
namespace CL
open PySem L2 DL
local macro_rules | `(tactic| walk_at "dl1") => `(tactic| first
  | ((with_reducible refine' ed_var ?hv ?_); (case hv => exact rfl))
  | with_reducible refine ed_int ?_
  | with_reducible refine ed_str ?_
  | with_reducible refine ed_bl ?_
  | with_reducible refine ed_non ?_
  | ((with_reducible refine' ed_jar0 ?hj ?_); (case hj => exact rfl); intro x hx)
  | ((with_reducible refine' ed_jar1 ?hj ?_); (case hj => exact rfl); intro x hx hx2)
  | ((with_reducible refine' ed_callJ ?hj ?_); (case hj => exact rfl))
  | ((with_reducible refine' sd_jset0 ?hj ?_); (case hj => exact rfl))
  | ((with_reducible refine' sd_jset1 ?hj ?_); (case hj => exact rfl))
  | with_reducible refine ed_op ?_
  | with_reducible refine ea_cons ?_
  | with_reducible refine ea_nil ?_
  | with_reducible refine ed_isi ?_
  | with_reducible refine ed_cb ?_
  | with_reducible refine ed_zip ?_
  | with_reducible refine ed_sset ?_
  | with_reducible refine ed_rg1 ?_
  | with_reducible refine ed_rg2 ?_
  | with_reducible refine ed_call ?_
  | with_reducible refine ed_tup ?_
  | with_reducible refine ed_lst ?_
  | with_reducible refine ed_andV ?_
  | with_reducible refine ed_orV ?_
  | with_reducible refine ed_notV ?_
  | with_reducible refine ed_chain ?_
  | with_reducible refine ed_if ?_
  | with_reducible refine ed_un ?_
  | with_reducible refine ed_sl ?_
  | with_reducible refine ed_revL ?_
  | with_reducible refine ed_m1 ?_
  | with_reducible refine eo_no ?_
  | with_reducible refine eo_some ?_
  | with_reducible refine et_test ?_
  | with_reducible refine et_B ?_
  | with_reducible refine et_and ?_
  | with_reducible refine et_or ?_
  | with_reducible refine et_not ?_
  | with_reducible refine et_yes ?_
  | with_reducible refine sb_start (Nat.le_of_ble_eq_true rfl) (fun M' => ?_)
  | with_reducible refine sd_seq ?_
  | with_reducible refine ep_cons ?_
  | with_reducible refine ep_nil ?_
  | with_reducible refine sd_next ?_
  | with_reducible refine sd_set ?_
  | with_reducible refine sd_ret ?_
  | with_reducible refine sd_drop ?_
  | with_reducible refine sd_if ?_
  | with_reducible refine sd_par ?_
  | with_reducible refine sd_par3 ?_
  | with_reducible refine rd_addI ?_
  | with_reducible refine rd_subI ?_
  | with_reducible refine rd_ltI ?_
  | with_reducible refine rd_leI ?_
  | with_reducible refine rd_gtI ?_
  | with_reducible refine rd_geI ?_
  | with_reducible refine rd_isNo ?_
  | with_reducible refine rd_notNo ?_
  | with_reducible refine cd_lenL ?_
  | with_reducible refine cd_lenT ?_
  | with_reducible refine cd_abs ?_
  | with_reducible refine cd_intI ?_
  | with_reducible refine cd_intB ?_
  | with_reducible refine cd_strS ?_
  | with_reducible refine cd_listT ?_
  | with_reducible refine cd_tupleL ?_
  | with_reducible refine sd_L ?_
  | with_reducible refine sd_T ?_
  | with_reducible refine gd_name ?_
  | ((with_reducible refine' ed_lcL1y ?hv ?_); (case hv => exact rfl))
  | ((with_reducible refine' ed_lcT1y ?hv ?_); (case hv => exact rfl))
  | ((with_reducible refine' ed_lcL1 ?hv ?_); (case hv => exact rfl))
  | ((with_reducible refine' ed_lcT1 ?hv ?_); (case hv => exact rfl))
  | with_reducible refine exB ?_
  | with_reducible refine exI ?_
  | with_reducible refine exS ?_
  | with_reducible refine exL ?_
  | with_reducible refine exT ?_
  | with_reducible refine exLs ?_
  | with_reducible refine exIs ?_
  | with_reducible refine ex2 ?_
  | with_reducible refine ex3 ?_
  | with_reducible refine ln0 ?_
  | with_reducible refine ln1 ?_
  | with_reducible refine ln2 ?_
  | with_reducible refine ln3 ?_
  | with_reducible refine ln4 ?_
  | with_reducible refine ln5 ?_
  | with_reducible refine ln6 ?_
  | with_reducible refine ln7 ?_
  | with_reducible refine ln8 ?_
  | with_reducible refine ln9 ?_
  | with_reducible refine ln10 ?_
  | with_reducible refine ln11 ?_
  | with_reducible refine ln12 ?_
  | with_reducible refine cTT ?_
  | with_reducible refine cFT ?_
  | with_reducible refine cTF ?_
  | with_reducible refine cFF ?_
  | with_reducible refine nTT ?_
  | with_reducible refine nFT ?_
  | with_reducible refine nTF ?_
  | with_reducible refine nFF ?_
  | refine rd_ixT0 ?_
  | refine rd_ixL0 ?_
  | refine rd_ixT rfl ?_
  | refine rd_ixL rfl ?_)
local macro_rules | `(tactic| walk_at "dl") => `(tactic| repeat (walk_at "dl1"))
local macro_rules | `(tactic| walk_at "call1") => `(tactic| ((refine ⟨_, rfl, ?hcd, fun r hr => ?hcr⟩); (case hcd => first | assumption | rfl); (case hcr => (subst hr; try walk_at "dl"))))
local macro_rules | `(tactic| walk_at "and") => `(tactic| (refine ed_andE ?_; try walk_at "dl"))
local macro_rules | `(tactic| walk_at "k") => `(tactic| ((first | refine ct rfl ?_ | refine cf rfl ?_ | refine ct' rfl ?_ | refine cf' rfl ?_); try walk_at "dl"))
/-! ### texts bent -/
section
variable {M : Md} {K : PySem.W.Frag} {Ez : Addr → Hp → Prop} {ρ : Rho} {rest : TS} {te : TE} {ta : TA} {D : EndD} {i : Nat}
/-- xs = [..]; xs.append(e) -/
theorem sd_lapp (hi : i < ρ.length) (h : EvA M K ta ρ fun ds => ds.length ≤ 1000 ∧ ∃ y, (∀ M' : Md, EvD M' K te (ρ.set i .no) fun d => d = y) ∧ StD M K Ez rest (ρ.set i (.dat (.list (ds ++ [y])))) D) :
    StD M K Ez (tSeq (tAsg (tLst ta) (gName i)) (tSeq (tDrop (tBM K "list" rAppend (tVar i) (tCons te tNil))) rest)) ρ D := fun Ds σ H e iv p =>
  h σ H e iv _ fun vs H1 ds r dv hd => by
    obtain ⟨hz, y, ht, hrest⟩ := hd
    refine ⟨by rw [dv.length]; exact Nat.le_trans hz (by decide), fun q hq => ?_⟩
    have i1 := M.invR iv r
    have hlen : i < σ.length := by have := (Paired.length e).symm; omega
    have mv : ∀ a o, ¬ M.vol a → H1 a = some o → (upd H1 q (.lst vs)) a = some o ∧ ¬ (M.add q).vol a := fun a o n z => ⟨by rw [upd_ne (ne_of_none z hq)]; exact z, fun w => w.elim n fun w => by rw [w, hq] at z; cases z⟩
    refine ⟨.ref q, by show (σ.set i (some (.ref q)))[i]? = _; simp [hlen], .inl ⟨rfl, _, SqL.of upd_same⟩, ?_⟩
    refine ht (M.add q) (σ.set i (some (.ref q))) (upd H1 q (.lst vs)) (Env.set0 i ((e.on r).move mv)) ⟨M.invR i1 (M.new hq), by rw [upd_same]; intro z; cases z⟩ _ fun v H2 d r2 dv2 hd2 => ?_
    subst hd2
    have hq2 : H2 q = some (.lst vs) := r2.2 _ upd_same
    refine ⟨q, vs, v, rfl, rfl, hq2, ?_, ?_⟩
    · rw [dv.length]
      exact Nat.lt_of_le_of_lt hz (by decide)
    · have r3 : M.R H1 (upd H2 q (.lst (vs ++ [v]))) := M.grow i1 (M.trans (M.new hq) r2.1) hq
      have mv2 : ∀ a o, ¬ (M.add q).vol a → H2 a = some o → (upd H2 q (.lst (vs ++ [v]))) a = some o ∧ ¬ M.vol a := fun a o n z => ⟨by rw [upd_ne (fun w => n (.inr w))]; exact z, fun w => n (.inl w)⟩
      have dvs : DtAll K M.vol (upd H2 q (.lst (vs ++ [v]))) (vs ++ [v]) (ds ++ [d]) := (dv.on r3).append (.cons (Dt.move mv2 _ _ dv2) .nil)
      have e3 : DL.Env K M.vol (upd H2 q (.lst (vs ++ [v]))) (σ.set i (some (.ref q))) (ρ.set i (.dat (.list (ds ++ [d])))) :=
        ((e.on r).on r3).setD (.lst upd_same (M.fresh i1 hq) dvs) i
      exact hrest Ds _ _ e3 (M.invR i1 r3) (p.on iv (M.trans r r3))
end
def costL (ys : List PySem.Str) : Nat := (ys.map (·.length)).sum + ys.length
theorem costL_app (a b : List PySem.Str) : costL (a ++ b) = costL a + costL b := by unfold costL; rw [List.map_append, List.sum_append, List.length_append]; omega
theorem costL_one (a : PySem.Str) : costL [a] = a.length + 1 := by simp [costL]
theorem costL_take : ∀ (n : Nat) (l : List PySem.Str), costL (l.take n) ≤ costL l
  | n, l => by
    have h := costL_app (l.take n) (l.drop n)
    rw [List.take_append_drop] at h
    omega
theorem costL_drop : ∀ (n : Nat) (l : List PySem.Str), costL (l.drop n) ≤ costL l
  | n, l => by
    have h := costL_app (l.take n) (l.drop n)
    rw [List.take_append_drop] at h
    omega
theorem costL_cut (l : List PySem.Str) (lo hi : Option Int) : costL (cutD l lo hi) ≤ costL l := Nat.le_trans (costL_take _ _) (costL_drop _ _)
theorem costL_rev (l : List PySem.Str) : costL l.reverse = costL l := by
  induction l with
  | nil => rfl
  | cons a l ih =>
    rw [List.reverse_cons, costL_app, ih, costL_one]
    show _ = costL (a :: l)
    have := costL_app [a] l
    rw [costL_one] at this
    show costL l + _ = costL ([a] ++ l)
    omega
theorem costL_mem {l : List PySem.Str} {x : PySem.Str} (h : x ∈ l) : x.length + 1 ≤ costL l := by
  obtain ⟨a, b, rfl⟩ := List.append_of_mem h
  have := costL_app a (x :: b)
  have h2 := costL_app [x] b
  rw [costL_one] at h2
  have e : costL (x :: b) = costL ([x] ++ b) := rfl
  omega
theorem len_cost (l : List PySem.Str) : l.length ≤ costL l := Nat.le_add_left _ _
theorem cutD_map {α β : Type} (f : α → β) (l : List α) (lo hi : Option Int) : cutD (l.map f) lo hi = (cutD l lo hi).map f := by
  unfold cutD
  rw [List.length_map, List.map_take, List.map_drop]
theorem spl0_cost (S : List Nat) : ∀ (n : Nat) (l acc : List Nat), l.length ≤ n → ((TL.spl S 0 acc l).map (·.length)).sum + (TL.spl S 0 acc l).length ≤ acc.length + l.length + 1
  | _, [], acc, _ => by rw [TL.spl_nil]; simp
  | 0, c :: r, acc, h => by simp at h
  | n + 1, c :: r, acc, h => by
    have hr : r.length ≤ n := by simpa using h
    cases hc : TL.pre S (c :: r) with
    | true =>
      rw [TL.spl_hit hc, TL.spl_pass]
      have h1 : (r.drop (S.length - 1)).length ≤ r.length := by rw [List.length_drop]; omega
      have h2 := spl0_cost S n (r.drop (S.length - 1)) [] (by omega)
      simp only [List.map_cons, List.sum_cons, List.length_cons, List.length_nil] at h2 ⊢
      omega
    | false =>
      rw [TL.spl_miss hc]
      have h2 := spl0_cost S n r (acc ++ [c]) hr
      rw [List.length_append] at h2
      simp only [List.length_cons, List.length_nil] at h2 ⊢
      omega
theorem split_cost {y : PySem.Str} (hy : TL.tl y ≠ []) (hk : y.cps.all (· < 256) = true) (x : PySem.Str) : costL (Txt.split x y) ≤ x.length + 1 := by
  have e := TL.split_spl x y hy (TL.kind_ok hk)
  have h := spl0_cost (TL.tl y) _ (TL.tl x) [] (Nat.le_refl _)
  rw [← e, List.length_map, List.map_map] at h
  have e2 : ((fun l : List Nat => l.length) ∘ TL.tl) = fun s : PySem.Str => s.length := by
    funext s
    exact (TL.len_tl s).symm
  rw [e2] at h
  unfold costL
  rw [TL.len_tl x]
  simpa using h
theorem joinL_len (S : List Nat) (hS : S.length ≤ 1) : ∀ ps : List (List Nat), (TL.joinL S ps).length ≤ (ps.map (·.length)).sum + ps.length
  | [] => Nat.zero_le _
  | [p] => by show p.length ≤ _; simp
  | p :: q :: r => by
    have ih := joinL_len S hS (q :: r)
    show (p ++ (S ++ TL.joinL S (q :: r))).length ≤ _
    rw [List.length_append, List.length_append, List.map_cons, List.sum_cons, List.length_cons]
    omega
theorem join_cost {y : PySem.Str} (hy : (TL.tl y).length ≤ 1) (ps : List PySem.Str) : (Txt.join y ps).length ≤ costL ps := by
  rw [TL.join_eq, TL.len_tl, TL.tl_join]
  have h := joinL_len (TL.tl y) hy (ps.map TL.tl)
  rw [List.length_map, List.map_map] at h
  have e2 : ((fun l : List Nat => l.length) ∘ TL.tl) = fun s : PySem.Str => s.length := by
    funext s
    exact (TL.len_tl s).symm
  rw [e2] at h
  exact h
theorem cutS_len (x : PySem.Str) (lo hi : Option Int) : (cutS x lo hi).length ≤ x.length := by
  show (((x.cps.toList.drop _).take _).toArray).size ≤ x.cps.size
  rw [List.size_toArray, List.length_take, List.length_drop, Array.length_toList]
  omega
theorem split_neY {y : PySem.Str} (hy : TL.tl y ≠ []) (hk : y.cps.all (· < 256) = true) (x : PySem.Str) : Txt.split x y ≠ [] := fun h => by
  have e := TL.split_spl x y hy (TL.kind_ok hk)
  rw [h] at e
  exact spl0_ne _ _ _ e.symm
theorem md_joinC {M : Md} {K : PySem.W.Frag} {Φ : PyData → Prop} {y : PySem.Str} {ds : List PyData} {ys : List PySem.Str} (hy : (TL.tl y).length ≤ 1) (hy2 : y.length ≤ 1) (e : ds = ys.map PyData.str) (h : costL ys ≤ 1000000) (q : ∀ u : PySem.Str, u.length ≤ costL ys → Φ (.str u)) : MD M K (rJoin K) (.str y) [.list ds] Φ := by
  subst e
  refine md_joinL ?_ (q _ (join_cost hy ys))
  unfold costL at h
  have : ys.length * y.length ≤ ys.length * 1 := Nat.mul_le_mul_left _ hy2
  omega
abbrev spBent (K : PySem.W.Frag) : Sp := spJ K (fun t : PySem.Str => [.str t]) (fun t => t.length ≤ 12000) (fun t r => ∃ u : PySem.Str, r = .str u ∧ u.length ≤ 4 * t.length + 200)
end CL
set_option Elab.async false
set_option linter.all false
set_option maxRecDepth 100000
set_option maxHeartbeats 2000000
namespace CL
open PySem L2 DL
local macro_rules | `(tactic| walk_at "dl1") => `(tactic| first
  | ((with_reducible refine' ed_var ?hv ?_); (case hv => exact rfl))
  | with_reducible refine ed_int ?_
  | with_reducible refine ed_str ?_
  | with_reducible refine ed_bl ?_
  | with_reducible refine ed_non ?_
  | ((with_reducible refine' ed_jar0 ?hj ?_); (case hj => exact rfl); intro x hx)
  | ((with_reducible refine' ed_jar1 ?hj ?_); (case hj => exact rfl); intro x hx hx2)
  | ((with_reducible refine' ed_callJ ?hj ?_); (case hj => exact rfl))
  | ((with_reducible refine' sd_lapp ?hi ?_); (case hi => exact Nat.le_of_ble_eq_true rfl))
  | ((with_reducible refine' sd_jset0 ?hj ?_); (case hj => exact rfl))
  | ((with_reducible refine' sd_jset1 ?hj ?_); (case hj => exact rfl))
  | with_reducible refine ed_op ?_
  | with_reducible refine ea_cons ?_
  | with_reducible refine ea_nil ?_
  | with_reducible refine ed_isi ?_
  | with_reducible refine ed_cb ?_
  | with_reducible refine ed_zip ?_
  | with_reducible refine ed_sset ?_
  | with_reducible refine ed_rg1 ?_
  | with_reducible refine ed_rg2 ?_
  | with_reducible refine ed_call ?_
  | with_reducible refine ed_tup ?_
  | with_reducible refine ed_lst ?_
  | with_reducible refine ed_andV ?_
  | with_reducible refine ed_orV ?_
  | with_reducible refine ed_notV ?_
  | with_reducible refine ed_chain ?_
  | with_reducible refine ed_if ?_
  | with_reducible refine ed_un ?_
  | with_reducible refine ed_sl ?_
  | with_reducible refine ed_revL ?_
  | with_reducible refine ed_m1 ?_
  | with_reducible refine eo_no ?_
  | with_reducible refine eo_some ?_
  | with_reducible refine et_test ?_
  | with_reducible refine et_B ?_
  | with_reducible refine et_and ?_
  | with_reducible refine et_or ?_
  | with_reducible refine et_not ?_
  | with_reducible refine et_yes ?_
  | with_reducible refine sb_start (Nat.le_of_ble_eq_true rfl) (fun M' => ?_)
  | with_reducible refine sd_seq ?_
  | with_reducible refine ep_cons ?_
  | with_reducible refine ep_nil ?_
  | with_reducible refine sd_next ?_
  | with_reducible refine sd_set ?_
  | with_reducible refine sd_ret ?_
  | with_reducible refine sd_drop ?_
  | with_reducible refine sd_if ?_
  | with_reducible refine sd_par ?_
  | with_reducible refine sd_par3 ?_
  | with_reducible refine rd_addI ?_
  | with_reducible refine rd_subI ?_
  | with_reducible refine rd_ltI ?_
  | with_reducible refine rd_leI ?_
  | with_reducible refine rd_gtI ?_
  | with_reducible refine rd_geI ?_
  | with_reducible refine rd_isNo ?_
  | with_reducible refine rd_notNo ?_
  | with_reducible refine cd_lenL ?_
  | with_reducible refine cd_lenT ?_
  | with_reducible refine cd_abs ?_
  | with_reducible refine cd_intI ?_
  | with_reducible refine cd_intB ?_
  | with_reducible refine cd_strS ?_
  | with_reducible refine cd_listT ?_
  | with_reducible refine cd_tupleL ?_
  | with_reducible refine sd_L ?_
  | with_reducible refine sd_T ?_
  | with_reducible refine gd_name ?_
  | ((with_reducible refine' ed_lcL1y ?hv ?_); (case hv => exact rfl))
  | ((with_reducible refine' ed_lcT1y ?hv ?_); (case hv => exact rfl))
  | ((with_reducible refine' ed_lcL1 ?hv ?_); (case hv => exact rfl))
  | ((with_reducible refine' ed_lcT1 ?hv ?_); (case hv => exact rfl))
  | with_reducible refine exB ?_
  | with_reducible refine exI ?_
  | with_reducible refine exS ?_
  | with_reducible refine exL ?_
  | with_reducible refine exT ?_
  | with_reducible refine exLs ?_
  | with_reducible refine exIs ?_
  | with_reducible refine ex2 ?_
  | with_reducible refine ex3 ?_
  | with_reducible refine ln0 ?_
  | with_reducible refine ln1 ?_
  | with_reducible refine ln2 ?_
  | with_reducible refine ln3 ?_
  | with_reducible refine ln4 ?_
  | with_reducible refine ln5 ?_
  | with_reducible refine ln6 ?_
  | with_reducible refine ln7 ?_
  | with_reducible refine ln8 ?_
  | with_reducible refine ln9 ?_
  | with_reducible refine ln10 ?_
  | with_reducible refine ln11 ?_
  | with_reducible refine ln12 ?_
  | with_reducible refine cTT ?_
  | with_reducible refine cFT ?_
  | with_reducible refine cTF ?_
  | with_reducible refine cFF ?_
  | with_reducible refine nTT ?_
  | with_reducible refine nFT ?_
  | with_reducible refine nTF ?_
  | with_reducible refine nFF ?_
  | refine rd_ixT0 ?_
  | refine rd_ixL0 ?_
  | refine rd_ixT rfl ?_
  | refine rd_ixL rfl ?_)
local macro_rules | `(tactic| walk_at "dl") => `(tactic| repeat (walk_at "dl1"))
local macro_rules | `(tactic| walk_at "call1") => `(tactic| ((refine ⟨_, rfl, ?hcd, fun r hr => ?hcr⟩); (case hcd => first | assumption | rfl); (case hcr => (subst hr; try walk_at "dl"))))
local macro_rules | `(tactic| walk_at "and") => `(tactic| (refine ed_andE ?_; try walk_at "dl"))
local macro_rules | `(tactic| walk_at "k") => `(tactic| ((first | refine ct rfl ?_ | refine cf rfl ?_ | refine ct' rfl ?_ | refine cf' rfl ?_); try walk_at "dl"))
theorem len_appS (a b : PySem.Str) : (a ++ b).length = a.length + b.length := by
  show (a.cps ++ b.cps).size = _
  rw [Array.size_append]
  rfl
def WORDS12 : List PySem.Str := ["a", "g", "0", "1", "2", "20", "21", "03", "same", "longer", "outer", ""]
def MORES : List PySem.Str := ["", "else", "end", "if a b same", "hold a b", "read a 0", "cut a 0 3", "cut a 0 2", "cut a 2 9", "split a a b 0 5"]
def CHARS : List PySem.Str := [" ", "0", "1", "\n", "x"]
theorem mem_strsL {xs : List PySem.Str} {r : PyData} {n : Nat} (hb : xs.all (fun s => decide (s.length ≤ n)) = true) (h : r ∈ xs.map PyData.str) : ∃ s : PySem.Str, r = .str s ∧ s.length ≤ n := by
  obtain ⟨s, hs, rfl⟩ := List.mem_map.mp h
  exact ⟨s, rfl, by have := List.all_eq_true.mp hb s hs; simpa using this⟩
theorem ok_law_bent {P : Program} {w : World} {K : PySem.W.Frag} {mg : PySem.Str → Option Value} {base : Heap} {a : Ads} {d : Fds} (T : Txt K mg a d) : FnOk P w K mg base CX0 3 a.law_bent d.law_bent P_law_bent (spBent K) := by
  have G_law_dip := ok_law_dip (P := P) (w := w) (base := base) T
  have G_law_any_of := ok_law_any_of (P := P) (w := w) (base := base) T
  refine T.F_law_bent.ok sc_law_bent (fun vs H Q E h => ?_) (fun cdv A outer s H vs Q E hr h => ?_)
  · obtain ⟨j, x, ws, rfl, _, ha, _⟩ := h
    have e := ha.length
    rw [List.length_cons, e]
    rfl
  refine ⟨_, (pss_cons (ps_par3 rfl sc_law_bent.nd (i := 2) (j := 3) (l := 4) rfl rfl rfl (by decide) (by decide) (by decide) rfl rfl rfl (pa_cons (pe_m1 F.slot_str_split F.type_str_split mSplit (pv 1) pe_str) (pa_cons (pe_call G_law_dip (hr.mono (by decide)) rfl T.g_law_dip T.k_law_dip T.b_law_dip .nil pass0 (pa_cons (pv 0) (pa_cons (pe_op oAddI (pe_callB cLen (by rfl) T.len (by decide +kernel) (pa_cons (pv 1) pa_nil)) pe_int) pa_nil))) (pa_cons (pe_call G_law_dip (hr.mono (by decide)) rfl T.g_law_dip T.k_law_dip T.b_law_dip .nil pass0 (pa_cons (pv 0) (pa_cons pe_int pa_nil))) pa_nil))) rfl) (pss_cons (ps_set (i := 5) sc_law_bent.nd rfl (Or.inl rfl) (pe_call G_law_dip (hr.mono (by decide)) rfl T.g_law_dip T.k_law_dip T.b_law_dip .nil pass0 (pa_cons (pv 0) (pa_cons (pe_callB cLen (by rfl) T.len (by decide +kernel) (pa_cons (pv 2) pa_nil)) pa_nil)))) (pss_cons (ps_set (i := 6) sc_law_bent.nd rfl (Or.inl rfl) (pe_m1 F.slot_str_split F.type_str_split mSplit (pe_ix ixLi (pv 2) (pv 5) (fun _ _ => rfl)) pe_str)) (pss_cons (ps_set (i := 7) sc_law_bent.nd rfl (Or.inl rfl) (pe_call G_law_dip (hr.mono (by decide)) rfl T.g_law_dip T.k_law_dip T.b_law_dip .nil pass0 (pa_cons (pv 0) (pa_cons (pe_callB cLen (by rfl) T.len (by decide +kernel) (pa_cons (pv 6) pa_nil)) pa_nil)))) (pss_cons (ps_set (i := 8) sc_law_bent.nd rfl (Or.inl rfl) (pe_lst (pa_cons pe_str (pa_cons pe_str (pa_cons pe_str (pa_cons pe_str (pa_cons pe_str (pa_cons pe_str (pa_cons pe_str (pa_cons pe_str (pa_cons pe_str pa_nil))))))))))) (pss_cons (ps_expr (pe_bm PySem.F.plainAttrs_list PySem.F.slot_list_append PySem.F.type_list_append mt_append (pv 8) (pa_cons pe_str pa_nil))) (pss_cons (ps_if (pt_cmpR (oEqP hr.units) (pv 4) pe_int rfl) (pss_one (ps_ret (pe_op oAddS (pe_op oAddS (pe_slice slSt (pv 1) po_none (po_some (pv 3))) (pe_call G_law_any_of (hr.mono (by decide)) rfl T.g_law_any_of T.k_law_any_of T.b_law_any_of .nil pass0 (pa_cons (pv 0) (pa_cons (pe_lst (pa_cons pe_str (pa_cons pe_str (pa_cons pe_str (pa_cons pe_str (pa_cons pe_str pa_nil)))))) pa_nil)))) (pe_slice slSt (pv 1) (po_some (pv 3)) po_none)))) pss_nil) (pss_cons (ps_if (pt_cmpR (oEqP hr.units) (pv 4) pe_int rfl) (pss_one (ps_ret (pe_op oAddS (pe_slice slSt (pv 1) po_none (po_some (pv 3))) (pe_slice slSt (pv 1) (po_some (pe_op oAddI (pv 3) pe_int)) po_none)))) pss_nil) (pss_cons (ps_if (pt_cmpR (oEqP hr.units) (pv 4) pe_int rfl) (pss_one (ps_ret (pe_m1 F.slot_str_join F.type_str_join mJoin pe_str (pe_op oCatL (pe_op oCatL (pe_slice slLi (pv 2) po_none (po_some (pv 5))) (pe_lst (pa_cons (pe_call G_law_any_of (hr.mono (by decide)) rfl T.g_law_any_of T.k_law_any_of T.b_law_any_of .nil pass0 (pa_cons (pv 0) (pa_cons (pv 8) pa_nil))) pa_nil))) (pe_slice slLi (pv 2) (po_some (pv 5)) po_none))))) pss_nil) (pss_cons (ps_if (pt_cmpR (oEqP hr.units) (pv 4) pe_int rfl) (pss_one (ps_ret (pe_m1 F.slot_str_join F.type_str_join mJoin pe_str (pe_op oCatL (pe_slice slLi (pv 2) po_none (po_some (pv 5))) (pe_slice slLi (pv 2) (po_some (pe_op oAddI (pv 5) pe_int)) po_none))))) pss_nil) (pss_cons (ps_if (pt_cmpR (oEqP hr.units) (pv 4) pe_int rfl) (pss_cons (ps_set (i := 9) sc_law_bent.nd rfl (Or.inl rfl) (pe_revL (pe_slice slLi (pv 2) (po_some (pv 5)) (po_some (pe_op oAddI (pv 5) pe_int))))) (pss_one (ps_ret (pe_m1 F.slot_str_join F.type_str_join mJoin pe_str (pe_op oCatL (pe_op oCatL (pe_slice slLi (pv 2) po_none (po_some (pv 5))) (pv 9)) (pe_slice slLi (pv 2) (po_some (pe_op oAddI (pv 5) pe_int)) po_none)))))) pss_nil) (pss_cons (ps_if (pt_cmpR (oEqP hr.units) (pv 4) pe_int rfl) (pss_one (ps_ret (pe_m1 F.slot_str_join F.type_str_join mJoin pe_str (pe_op oCatL (pv 2) (pe_slice slLi (pv 2) (po_some (pv 5)) po_none))))) pss_nil) (pss_cons (ps_set (i := 10) sc_law_bent.nd rfl (Or.inl rfl) (pe_call G_law_any_of (hr.mono (by decide)) rfl T.g_law_any_of T.k_law_any_of T.b_law_any_of .nil pass0 (pa_cons (pv 0) (pa_cons (pe_lst (pa_cons pe_str (pa_cons pe_str (pa_cons pe_str (pa_cons pe_str (pa_cons pe_str (pa_cons pe_str (pa_cons pe_str (pa_cons pe_str (pa_cons pe_str (pa_cons pe_str (pa_cons pe_str (pa_cons pe_str pa_nil))))))))))))) pa_nil)))) (pss_cons (ps_set (i := 6) sc_law_bent.nd rfl (Or.inl rfl) (pe_op oCatL (pe_op oCatL (pe_slice slLi (pv 6) po_none (po_some (pv 7))) (pe_lst (pa_cons (pv 10) pa_nil))) (pe_slice slLi (pv 6) (po_some (pe_op oAddI (pv 7) (pe_callTy cInt (by rfl) T.int (by decide +kernel) (pa_cons (pe_cmpR (oEqP hr.units) (pv 4) pe_int rfl) pa_nil)))) po_none))) (pss_cons (ps_set (i := 11) sc_law_bent.nd rfl (Or.inl rfl) (pe_m1 F.slot_str_join F.type_str_join mJoin pe_str (pv 6))) (pss_one (ps_ret (pe_m1 F.slot_str_join F.type_str_join mJoin pe_str (pe_op oCatL (pe_op oCatL (pe_slice slLi (pv 2) po_none (po_some (pv 5))) (pe_lst (pa_cons (pv 11) pa_nil))) (pe_slice slLi (pv 2) (po_some (pe_op oAddI (pv 5) pe_int)) po_none)))))))))))))))))))), run_jar h (fun j x hx => ?_)⟩
  try dsimp only [cxOf, List.map_cons, List.map_nil]
  walk_at "dl"
  refine md_split (by decide +kernel) (by omega) ?_
  walk_at "dl"
  refine cd_lenS (by omega) ?_
  walk_at "dl"
  refine ⟨by omega, fun r1 hr1 => ?_⟩
  obtain ⟨at3, rfl, a0, a1⟩ := hr1
  walk_at "dl"
  refine ⟨by omega, fun r1 hr1 => ?_⟩
  obtain ⟨kind, rfl, k0, k1⟩ := hr1
  walk_at "dl"
  have hls := split_cost (y := "\n") (by decide +kernel) (by decide +kernel) x
  have hl0 : 0 < (Txt.split x "\n").length := by
    exact List.length_pos_iff.mpr (split_neY (by decide +kernel) (by decide +kernel) x)
  generalize hL : Txt.split x "\n" = L at hls hl0 ⊢
  have hLl := len_cost L
  walk_at "dl"
  refine ⟨by rw [List.length_map]; omega, fun r1 hr1 => ?_⟩
  obtain ⟨spot, rfl, s0, s1⟩ := hr1
  rw [List.length_map] at s1
  walk_at "dl"
  refine rd_ixLi s0 (by rw [List.length_map]; omega) ?_
  have hsp : spot.toNat < L.length := by omega
  rw [List.getD_eq_getElem?_getD, List.getElem?_map, List.getElem?_eq_getElem hsp]
  have hline : L[spot.toNat].length + 1 ≤ costL L := costL_mem (List.getElem_mem hsp)
  generalize L[spot.toNat] = line at hline ⊢
  refine ⟨line, rfl, ?_⟩
  walk_at "dl"
  refine md_split (by decide +kernel) (by omega) ?_
  have hws := split_cost (y := " ") (by decide +kernel) (by decide +kernel) line
  have hw0 : 0 < (Txt.split line " ").length := List.length_pos_iff.mpr (split_ne line)
  generalize hW : Txt.split line " " = W at hws hw0 ⊢
  have hWl := len_cost W
  walk_at "dl"
  walk_at "dl"
  refine ⟨by rw [List.length_map]; omega, fun r1 hr1 => ?_⟩
  obtain ⟨here, rfl, h0, h1⟩ := hr1
  rw [List.length_map] at h1
  walk_at "dl"
  refine ⟨by decide, .str "split a a b 0 5", fun M' => ?_, ?_⟩
  · walk_at "dl"
    rfl
  walk_at "dl"
  have hmo : ∀ r : PyData, r ∈ MORES.map PyData.str → ∃ s : PySem.Str, r = .str s ∧ s.length ≤ 16 := fun r hr => mem_strsL (by decide +kernel) hr
  refine rd_eqP okEq_ii ?_
  walk_at "dl"
  refine ⟨fun hc => ?_, fun hc => ?_⟩
  · walk_at "dl"
    refine sd_S (by omega) ?_
    walk_at "dl"
    refine ⟨⟨by simp, by simp⟩, fun r hr => ?_⟩
    have hr : r ∈ CHARS.map PyData.str := hr
    obtain ⟨c, rfl, hcl⟩ := mem_strsL (n := 1) (by decide +kernel) hr
    have c1 := cutS_len x none (some at3)
    have c2 := cutS_len x (some at3) none
    walk_at "dl"
    refine rd_addS (by omega) ?_
    walk_at "dl"
    refine sd_S (by omega) ?_
    refine rd_addS (by rw [len_appS]; omega) ?_
    walk_at "dl"
    rw [len_appS, len_appS]
    omega
  walk_at "dl"
  refine rd_eqP okEq_ii ?_
  walk_at "dl"
  refine ⟨fun hc => ?_, fun hc => ?_⟩
  · walk_at "dl"
    refine sd_S (by omega) ?_
    walk_at "dl"
    refine sd_S (by omega) ?_
    have c1 := cutS_len x none (some at3)
    have c2 := cutS_len x (some (at3 + 1)) none
    refine rd_addS (by omega) ?_
    walk_at "dl"
    rw [len_appS]
    omega
  walk_at "dl"
  have d1 := costL_cut L none (some spot)
  have d2 := costL_cut L (some spot) none
  have d3 := costL_cut L (some (spot + 1)) none
  refine rd_eqP okEq_ii ?_
  walk_at "dl"
  refine ⟨fun hc => ?_, fun hc => ?_⟩
  · walk_at "dl"
    refine ⟨⟨by simp, by simp⟩, fun r hr => ?_⟩
    obtain ⟨c, rfl, hcl⟩ := hmo _ hr
    walk_at "dl"
    rw [cutD_map]
    have l1 := len_cost (cutD L none (some spot))
    have l2 := len_cost (cutD L (some spot) none)
    refine rd_catL (by rw [List.length_map]; simp only [List.length_cons, List.length_nil]; omega) ?_
    walk_at "dl"
    rw [cutD_map]
    refine rd_catL (by rw [List.length_append, List.length_map, List.length_map]; simp only [List.length_cons, List.length_nil]; omega) ?_
    walk_at "dl"
    have e : costL (cutD L none (some spot) ++ [c] ++ cutD L (some spot) none) ≤ 2 * (x.length + 1) + 17 := by
      rw [costL_app, costL_app, costL_one]
      omega
    refine md_joinC (ys := cutD L none (some spot) ++ [c] ++ cutD L (some spot) none) (by decide +kernel) (by decide +kernel) (by rw [List.map_append, List.map_append]; rfl) (by omega) fun u hu => ?_
    walk_at "dl"
    omega
  walk_at "dl"
  refine rd_eqP okEq_ii ?_
  walk_at "dl"
  refine ⟨fun hc => ?_, fun hc => ?_⟩
  · walk_at "dl"
    rw [cutD_map, cutD_map]
    have l1 := len_cost (cutD L none (some spot))
    have l2 := len_cost (cutD L (some (spot + 1)) none)
    refine rd_catL (by rw [List.length_map, List.length_map]; omega) ?_
    walk_at "dl"
    have e : costL (cutD L none (some spot) ++ cutD L (some (spot + 1)) none) ≤ 2 * (x.length + 1) := by
      rw [costL_app]
      omega
    refine md_joinC (ys := cutD L none (some spot) ++ cutD L (some (spot + 1)) none) (by decide +kernel) (by decide +kernel) (by rw [List.map_append]) (by omega) fun u hu => ?_
    walk_at "dl"
    omega
  walk_at "dl"
  refine rd_eqP okEq_ii ?_
  walk_at "dl"
  refine ⟨fun hc => ?_, fun hc => ?_⟩
  · walk_at "dl"
    rw [cutD_map, cutD_map, ← List.map_reverse]
    have d4 := costL_cut L (some spot) (some (spot + 2))
    have d5 := costL_rev (cutD L (some spot) (some (spot + 2)))
    have d6 := costL_cut L (some (spot + 2)) none
    have l1 := len_cost (cutD L none (some spot))
    have l2 := len_cost (cutD L (some spot) (some (spot + 2))).reverse
    have l3 := len_cost (cutD L (some (spot + 2)) none)
    refine rd_catL (by rw [List.length_map, List.length_map]; omega) ?_
    walk_at "dl"
    rw [cutD_map]
    refine rd_catL (by rw [List.length_append, List.length_map, List.length_map, List.length_map]; omega) ?_
    walk_at "dl"
    have e : costL (cutD L none (some spot) ++ (cutD L (some spot) (some (spot + 2))).reverse ++ cutD L (some (spot + 2)) none) ≤ 3 * (x.length + 1) := by
      rw [costL_app, costL_app]
      omega
    refine md_joinC (ys := cutD L none (some spot) ++ (cutD L (some spot) (some (spot + 2))).reverse ++ cutD L (some (spot + 2)) none) (by decide +kernel) (by decide +kernel) (by rw [List.map_append, List.map_append]) (by omega) fun u hu => ?_
    walk_at "dl"
    omega
  walk_at "dl"
  refine rd_eqP okEq_ii ?_
  walk_at "dl"
  refine ⟨fun hc => ?_, fun hc => ?_⟩
  · walk_at "dl"
    rw [cutD_map]
    have l2 := len_cost (cutD L (some spot) none)
    refine rd_catL (by rw [List.length_map, List.length_map]; omega) ?_
    walk_at "dl"
    have e : costL (L ++ cutD L (some spot) none) ≤ 2 * (x.length + 1) := by
      rw [costL_app]
      omega
    refine md_joinC (ys := L ++ cutD L (some spot) none) (by decide +kernel) (by decide +kernel) (by rw [List.map_append]) (by omega) fun u hu => ?_
    walk_at "dl"
    omega
  walk_at "dl"
  refine ⟨⟨by simp, by simp⟩, fun r hr => ?_⟩
  have hr : r ∈ WORDS12.map PyData.str := hr
  obtain ⟨c, rfl, hcl⟩ := mem_strsL (n := 6) (by decide +kernel) hr
  walk_at "dl"
  have w1 := costL_cut W none (some here)
  have m1 := len_cost (cutD W none (some here))
  rw [cutD_map]
  refine rd_catL (by rw [List.length_map]; simp only [List.length_cons, List.length_nil]; omega) ?_
  walk_at "dl"
  refine rd_eqP okEq_ii ?_
  walk_at "dl"
  generalize (here + if (PyData.int kind).eqv (PyData.int 6) = true then (1 : Int) else 0) = here2
  rw [cutD_map]
  have w2 := costL_cut W (some here2) none
  have m2 := len_cost (cutD W (some here2) none)
  refine rd_catL (by rw [List.length_append, List.length_map, List.length_map]; simp only [List.length_cons, List.length_nil]; omega) ?_
  walk_at "dl"
  have e0 : costL (cutD W none (some here) ++ [c] ++ cutD W (some here2) none) ≤ 2 * (line.length + 1) + 7 := by
    rw [costL_app, costL_app, costL_one]
    omega
  refine md_joinC (ys := cutD W none (some here) ++ [c] ++ cutD W (some here2) none) (by decide +kernel) (by decide +kernel) (by rw [List.map_append, List.map_append]; rfl) (by omega) fun u hu => ?_
  walk_at "dl"
  rw [cutD_map]
  have l1 := len_cost (cutD L none (some spot))
  have l2 := len_cost (cutD L (some (spot + 1)) none)
  refine rd_catL (by rw [List.length_map]; simp only [List.length_cons, List.length_nil]; omega) ?_
  walk_at "dl"
  rw [cutD_map]
  refine rd_catL (by rw [List.length_append, List.length_map, List.length_map]; simp only [List.length_cons, List.length_nil]; omega) ?_
  walk_at "dl"
  have e : costL (cutD L none (some spot) ++ [u] ++ cutD L (some (spot + 1)) none) ≤ 4 * (x.length + 1) + 8 := by
    rw [costL_app, costL_app, costL_one]
    omega
  refine md_joinC (ys := cutD L none (some spot) ++ [u] ++ cutD L (some (spot + 1)) none) (by decide +kernel) (by decide +kernel) (by rw [List.map_append, List.map_append]; rfl) (by omega) fun u hu => ?_
  walk_at "dl"
  omega
end CL
set_option Elab.async false
set_option linter.all false
set_option maxRecDepth 100000
set_option maxHeartbeats 2000000
namespace CL
open PySem L2 DL
local macro_rules | `(tactic| walk_at "dl1") => `(tactic| first
  | ((with_reducible refine' ed_var ?hv ?_); (case hv => exact rfl))
  | with_reducible refine ed_int ?_
  | with_reducible refine ed_str ?_
  | with_reducible refine ed_bl ?_
  | with_reducible refine ed_non ?_
  | ((with_reducible refine' ed_jar0 ?hj ?_); (case hj => exact rfl); intro x hx)
  | ((with_reducible refine' ed_jar1 ?hj ?_); (case hj => exact rfl); intro x hx hx2)
  | ((with_reducible refine' ed_callJ ?hj ?_); (case hj => exact rfl))
  | ((with_reducible refine' sd_lapp ?hi ?_); (case hi => exact Nat.le_of_ble_eq_true rfl))
  | ((with_reducible refine' sd_jset0 ?hj ?_); (case hj => exact rfl))
  | ((with_reducible refine' sd_jset1 ?hj ?_); (case hj => exact rfl))
  | with_reducible refine ed_op ?_
  | with_reducible refine ea_cons ?_
  | with_reducible refine ea_nil ?_
  | with_reducible refine ed_isi ?_
  | with_reducible refine ed_cb ?_
  | with_reducible refine ed_zip ?_
  | with_reducible refine ed_sset ?_
  | with_reducible refine ed_rg1 ?_
  | with_reducible refine ed_rg2 ?_
  | with_reducible refine ed_call ?_
  | with_reducible refine ed_tup ?_
  | with_reducible refine ed_lst ?_
  | with_reducible refine ed_andV ?_
  | with_reducible refine ed_orV ?_
  | with_reducible refine ed_notV ?_
  | with_reducible refine ed_chain ?_
  | with_reducible refine ed_if ?_
  | with_reducible refine ed_un ?_
  | with_reducible refine ed_sl ?_
  | with_reducible refine ed_revL ?_
  | with_reducible refine ed_m1 ?_
  | with_reducible refine eo_no ?_
  | with_reducible refine eo_some ?_
  | with_reducible refine et_test ?_
  | with_reducible refine et_B ?_
  | with_reducible refine et_and ?_
  | with_reducible refine et_or ?_
  | with_reducible refine et_not ?_
  | with_reducible refine et_yes ?_
  | with_reducible refine sb_start (Nat.le_of_ble_eq_true rfl) (fun M' => ?_)
  | with_reducible refine sd_seq ?_
  | with_reducible refine ep_cons ?_
  | with_reducible refine ep_nil ?_
  | with_reducible refine sd_next ?_
  | with_reducible refine sd_set ?_
  | with_reducible refine sd_ret ?_
  | with_reducible refine sd_drop ?_
  | with_reducible refine sd_if ?_
  | with_reducible refine sd_par ?_
  | with_reducible refine sd_par3 ?_
  | with_reducible refine rd_addI ?_
  | with_reducible refine rd_subI ?_
  | with_reducible refine rd_ltI ?_
  | with_reducible refine rd_leI ?_
  | with_reducible refine rd_gtI ?_
  | with_reducible refine rd_geI ?_
  | with_reducible refine rd_isNo ?_
  | with_reducible refine rd_notNo ?_
  | with_reducible refine cd_lenL ?_
  | with_reducible refine cd_lenT ?_
  | with_reducible refine cd_abs ?_
  | with_reducible refine cd_intI ?_
  | with_reducible refine cd_intB ?_
  | with_reducible refine cd_strS ?_
  | with_reducible refine cd_listT ?_
  | with_reducible refine cd_tupleL ?_
  | with_reducible refine sd_L ?_
  | with_reducible refine sd_T ?_
  | with_reducible refine gd_name ?_
  | ((with_reducible refine' ed_lcL1y ?hv ?_); (case hv => exact rfl))
  | ((with_reducible refine' ed_lcT1y ?hv ?_); (case hv => exact rfl))
  | ((with_reducible refine' ed_lcL1 ?hv ?_); (case hv => exact rfl))
  | ((with_reducible refine' ed_lcT1 ?hv ?_); (case hv => exact rfl))
  | with_reducible refine exB ?_
  | with_reducible refine exI ?_
  | with_reducible refine exS ?_
  | with_reducible refine exL ?_
  | with_reducible refine exT ?_
  | with_reducible refine exLs ?_
  | with_reducible refine exIs ?_
  | with_reducible refine ex2 ?_
  | with_reducible refine ex3 ?_
  | with_reducible refine ln0 ?_
  | with_reducible refine ln1 ?_
  | with_reducible refine ln2 ?_
  | with_reducible refine ln3 ?_
  | with_reducible refine ln4 ?_
  | with_reducible refine ln5 ?_
  | with_reducible refine ln6 ?_
  | with_reducible refine ln7 ?_
  | with_reducible refine ln8 ?_
  | with_reducible refine ln9 ?_
  | with_reducible refine ln10 ?_
  | with_reducible refine ln11 ?_
  | with_reducible refine ln12 ?_
  | with_reducible refine cTT ?_
  | with_reducible refine cFT ?_
  | with_reducible refine cTF ?_
  | with_reducible refine cFF ?_
  | with_reducible refine nTT ?_
  | with_reducible refine nFT ?_
  | with_reducible refine nTF ?_
  | with_reducible refine nFF ?_
  | refine rd_ixT0 ?_
  | refine rd_ixL0 ?_
  | refine rd_ixT rfl ?_
  | refine rd_ixL rfl ?_)
local macro_rules | `(tactic| walk_at "dl") => `(tactic| repeat (walk_at "dl1"))
local macro_rules | `(tactic| walk_at "call1") => `(tactic| ((refine ⟨_, rfl, ?hcd, fun r hr => ?hcr⟩); (case hcd => first | assumption | rfl); (case hcr => (subst hr; try walk_at "dl"))))
local macro_rules | `(tactic| walk_at "and") => `(tactic| (refine ed_andE ?_; try walk_at "dl"))
local macro_rules | `(tactic| walk_at "k") => `(tactic| ((first | refine ct rfl ?_ | refine cf rfl ?_ | refine ct' rfl ?_ | refine cf' rfl ?_); try walk_at "dl"))
theorem dtAll_ints {K : PySem.W.Frag} {vol : Addr → Prop} {H : Hp} : ∀ ns : List Int, DtAll K vol H (ns.map V.int) (ns.map PyData.int)
  | [] => .nil
  | n :: r => .cons (.int n) (dtAll_ints r)
theorem dt_int {K : PySem.W.Frag} {vol : Addr → Prop} {H : Hp} {v : V} {n : Int} (h : Dt K vol H v (.int n)) : v = .int n := by cases h; rfl
theorem dtAll_2 {K : PySem.W.Frag} {vol : Addr → Prop} {H : Hp} {vs : List V} {x y : Int} (h : DtAll K vol H vs [.int x, .int y]) : vs = [.int x, .int y] := by
  cases h with
  | cons a b => cases b with
    | cons c d => cases d; rw [dt_int a, dt_int c]
theorem sqL_same {K : PySem.W.Frag} {H H' : Hp} {a : Addr} {xs : List V} (h : SqL K H a xs) (e : Same H H') : SqL K H' a xs := by
  rcases h with h | h
  · rcases h with h | h
    · exact .inl (.inl (e _ _ h))
    · obtain ⟨o, h⟩ := h
      exact .inl (.inr ⟨o, e _ _ h⟩)
  · exact .inr h
/-- the law's own argument is read: a list of numbers -/
def scrM (K : PySem.W.Frag) (b : Addr) (ns : List Int) : Md where
  vol := fun _ => False
  R := Same
  inv := fun H => SqL K H b (ns.map V.int)
  refl := Same.refl
  trans := Same.trans
  same := id
  keep := fun e _ h => e _ _ h
  invR := fun i e => sqL_same i e
  volN := fun _ v => v.elim
  grow := fun _ e h a o q => by rw [upd_ne (ne_of_none q h)]; exact e a o q
section
variable {K : PySem.W.Frag} {b : Addr} {ns : List Int} {ρ : Rho} {Φ : PyData → Prop}
theorem ed_lenScr {n : Nat} (hn : ρ[n]? = some (.adr b)) (q : Φ (.int ns.length)) : EvD (scrM K b ns) K (tCB (rLenQ K) (tCons (tVar n) tNil)) ρ Φ := fun σ H e i Q k => by
  refine ⟨.ref b, e.adr hn, .inl ⟨b, _, rfl, .inl i, k _ _ _ (Same.refl H) (.int _) ?_⟩⟩
  rw [List.length_map]
  exact q
theorem ed_ixScr {n m : Nat} {k : Int} (hn : ρ[n]? = some (.adr b)) (hm : ρ[m]? = some (.dat (.int k))) (k0 : 0 ≤ k) (hk : k.toNat < ns.length) (q : ∀ z : Int, Φ (.int z)) : EvD (scrM K b ns) K (tOp (rIxLi K) (tVar n) (tVar m)) ρ Φ := fun σ H e i Q q2 => by
  obtain ⟨v, hv, dv⟩ := e.dat hm
  rw [dt_int dv] at hv
  refine ⟨.ref b, e.adr hn, .int k, hv, ?_⟩
  have hat : atI (ns.map V.int) k = some (.int (ns.getD k.toNat 0)) := by
    have e : k = ((k.toNat : Nat) : Int) := by omega
    have q : (ns.map V.int)[k.toNat]? = some (.int (ns.getD k.toNat 0)) := by rw [List.getElem?_map, List.getD_eq_getElem?_getD, List.getElem?_eq_getElem hk]; rfl
    have z := atI_nat q
    rw [← e] at z
    exact z
  exact ⟨b, ns.map V.int, k, _, rfl, rfl, i, hat, q2 _ _ _ (Same.refl H) (.int _) (q _)⟩
end
def spJar (K : PySem.W.Frag) : Sp := fun vs H Q _ => ∃ (a : Addr) (ns : List Int) (k : Int), vs = [.ref a, .int k] ∧ SqL K H a (ns.map V.int) ∧ ns.length ≤ 63 ∧ 0 ≤ k ∧ k ≤ 1000 ∧ ∀ q x y H1, Same H H1 → H1 q = none → 0 ≤ x → 0 ≤ y → y < 2147482943 → Q (.ref q) (upd H1 q (.lst [.int x, .int y]))
theorem jar_run {K : PySem.W.Frag} {b : Addr} {ns : List Int} {ρ : Rho} {σ : St} {H : Hp} {te : TE} {ta : TA} {Q : VK} {Qx : St → Hp → Prop} (e : DL.Env K (fun _ => False) H σ ρ) (i : SqL K H b (ns.map V.int)) (h : EvD (scrM K b ns) K te ρ fun d => ∃ n : Int, d = .int n ∧ 0 ≤ n)
    (h2 : ∀ n : Int, 0 ≤ n → EvA (scrM K b ns) K ta (ρ.set 2 (.dat (.int n))) fun ds => ∃ x y : Int, ds = [.int x, .int y] ∧ 0 ≤ x ∧ 0 ≤ y ∧ y < 2147482943)
    (q : ∀ q x y H1, Same H H1 → H1 q = none → 0 ≤ x → 0 ≤ y → y < 2147482943 → Q (.ref q) (upd H1 q (.lst [.int x, .int y]))) :
    tSeq (tAsg te (gName 2)) (tRet (tLst ta)) { nx := Qx, rt := Q } σ H :=
  h σ H e i _ fun v H1 d r1 dv hd => by
    obtain ⟨n, rfl, n0⟩ := hd
    refine h2 n n0 _ _ (DL.Env.set (e := .dat (.int n)) (o := some v) dv 2 (e.on (M := scrM K b ns) r1)) (sqL_same i r1) _ fun vs H2 ds r2 dv2 hd2 => ?_
    obtain ⟨x, y, rfl, x0, y0, y1⟩ := hd2
    rw [dtAll_2 dv2]
    exact ⟨show 2 ≤ sizeLine by decide, fun p hp => q p x y H2 (r1.trans r2) hp x0 y0 y1⟩
local macro_rules | `(tactic| walk_at "dl1") => `(tactic| first
  | ((with_reducible refine' ed_lenScr ?hn ?_); (case hn => exact rfl))
  | ((with_reducible refine' ed_ixScr ?hn ?hm ?_ ?_ ?_); (case hn => exact rfl); (case hm => exact rfl)))
theorem ok_law_jar {P : Program} {w : World} {K : PySem.W.Frag} {mg : PySem.Str → Option Value} {base : Heap} {a : Ads} {d : Fds} (T : Txt K mg a d) : FnOk P w K mg base CX0 1 a.law_jar d.law_jar P_law_jar (spJar K) := by
  refine T.F_law_jar.ok sc_law_jar (fun vs H Q E h => ?_) (fun cdv A outer s H vs Q E hr h => ?_)
  · obtain ⟨a, ns, k, rfl, _⟩ := h
    rfl
  refine ⟨_, (pss_cons (ps_set (i := 2) sc_law_jar.nd rfl (Or.inl rfl) (pe_ifExp (pt_cmpR oLtI (pv 1) (pe_callB cLen (by rfl) T.len (by decide +kernel) (pa_cons (pv 0) pa_nil)) rfl) (pe_callB cAbs (by rfl) T.abs (by decide +kernel) (pa_cons (pe_callTy cInt (by rfl) T.int (by decide +kernel) (pa_cons (pe_ix ixLi (pv 0) (pv 1) (fun _ _ => rfl)) pa_nil)) pa_nil)) (pe_op oAddI (pe_op oMulI pe_int (pv 1)) pe_int))) (pss_one (ps_ret (pe_lst (pa_cons (pe_ifExp (pt_cmpR oGeI (pv 2) (pe_op oPowI pe_int pe_int) rfl) (pv 2) pe_int) (pa_cons (pe_op oModI (pe_callTy cInt (by rfl) T.int (by decide +kernel) (pa_cons (pe_op oAddI (pe_op oAddI (pe_op oModI (pe_callTy cInt (by rfl) T.int (by decide +kernel) (pa_cons (pv 2) pa_nil)) pe_int) (pe_op oMulI pe_int (pv 1))) pe_int) pa_nil)) pe_int) pa_nil)))))), ?_⟩
  try dsimp only [cxOf, List.map_cons, List.map_nil]
  obtain ⟨b, ns, k, rfl, hb, hn, k0, k1, hq⟩ := h
  have e0 : DL.Env K (fun _ => False) H (L2.start N_law_jar [.ref b, .int k]) [.adr b, .dat (.int k), .no] :=
    .cons rfl (.cons (Dt.int k) (.cons trivial .nil))
  refine jar_run e0 hb ?_ (fun n hn => ?_) hq
  · walk_at "dl"
    refine ⟨fun hc => ?_, fun hc => ?_⟩
    · have hc := of_decide_eq_true hc
      refine ed_cb ?_
      walk_at "dl"
      · exact k0
      · omega
      intro z
      walk_at "dl"
      split <;> omega
    · walk_at "dl"
      refine rd_mulI (cmul1 (by decide) (by decide)) ?_
      walk_at "dl"
      omega
  · walk_at "dl"
    refine rd_powI ⟨by decide, by decide, by decide⟩ ?_
    walk_at "dl"
    refine ⟨fun hc => ?_, fun hc => ?_⟩
    · walk_at "dl"
      refine rd_modI (by decide) ?_
      walk_at "dl"
      refine rd_mulI (cmul1 (by decide) (by decide)) ?_
      walk_at "dl"
      refine rd_modI (by decide) ?_
      walk_at "dl"
      exact ⟨_, _, rfl, hn, Int.fmod_nonneg_of_pos _ (by decide), Int.fmod_lt_of_pos _ (by decide)⟩
    · walk_at "dl"
      refine rd_modI (by decide) ?_
      walk_at "dl"
      refine rd_mulI (cmul1 (by decide) (by decide)) ?_
      walk_at "dl"
      refine rd_modI (by decide) ?_
      walk_at "dl"
      exact ⟨_, _, rfl, by decide, Int.fmod_nonneg_of_pos _ (by decide), Int.fmod_lt_of_pos _ (by decide)⟩
end CL
set_option Elab.async false
set_option linter.all false
set_option maxRecDepth 100000
set_option maxHeartbeats 2000000
namespace CL
open PySem L2 DL
local macro_rules | `(tactic| walk_at "dl1") => `(tactic| first
  | ((with_reducible refine' ed_var ?hv ?_); (case hv => exact rfl))
  | with_reducible refine ed_int ?_
  | with_reducible refine ed_str ?_
  | with_reducible refine ed_bl ?_
  | with_reducible refine ed_non ?_
  | ((with_reducible refine' ed_jar0 ?hj ?_); (case hj => exact rfl); intro x hx)
  | ((with_reducible refine' ed_jar1 ?hj ?_); (case hj => exact rfl); intro x hx hx2)
  | ((with_reducible refine' ed_callJ ?hj ?_); (case hj => exact rfl))
  | ((with_reducible refine' sd_lapp ?hi ?_); (case hi => exact Nat.le_of_ble_eq_true rfl))
  | ((with_reducible refine' sd_jset0 ?hj ?_); (case hj => exact rfl))
  | ((with_reducible refine' sd_jset1 ?hj ?_); (case hj => exact rfl))
  | with_reducible refine ed_op ?_
  | with_reducible refine ea_cons ?_
  | with_reducible refine ea_nil ?_
  | with_reducible refine ed_isi ?_
  | with_reducible refine ed_cb ?_
  | with_reducible refine ed_zip ?_
  | with_reducible refine ed_sset ?_
  | with_reducible refine ed_rg1 ?_
  | with_reducible refine ed_rg2 ?_
  | with_reducible refine ed_call ?_
  | with_reducible refine ed_tup ?_
  | with_reducible refine ed_lst ?_
  | with_reducible refine ed_andV ?_
  | with_reducible refine ed_orV ?_
  | with_reducible refine ed_notV ?_
  | with_reducible refine ed_chain ?_
  | with_reducible refine ed_if ?_
  | with_reducible refine ed_un ?_
  | with_reducible refine ed_sl ?_
  | with_reducible refine ed_revL ?_
  | with_reducible refine ed_m1 ?_
  | with_reducible refine eo_no ?_
  | with_reducible refine eo_some ?_
  | with_reducible refine et_test ?_
  | with_reducible refine et_B ?_
  | with_reducible refine et_and ?_
  | with_reducible refine et_or ?_
  | with_reducible refine et_not ?_
  | with_reducible refine et_yes ?_
  | with_reducible refine sb_start (Nat.le_of_ble_eq_true rfl) (fun M' => ?_)
  | with_reducible refine sd_seq ?_
  | with_reducible refine ep_cons ?_
  | with_reducible refine ep_nil ?_
  | with_reducible refine sd_next ?_
  | with_reducible refine sd_set ?_
  | with_reducible refine sd_ret ?_
  | with_reducible refine sd_drop ?_
  | with_reducible refine sd_if ?_
  | with_reducible refine sd_par ?_
  | with_reducible refine sd_par3 ?_
  | with_reducible refine rd_addI ?_
  | with_reducible refine rd_subI ?_
  | with_reducible refine rd_ltI ?_
  | with_reducible refine rd_leI ?_
  | with_reducible refine rd_gtI ?_
  | with_reducible refine rd_geI ?_
  | with_reducible refine rd_isNo ?_
  | with_reducible refine rd_notNo ?_
  | with_reducible refine cd_lenL ?_
  | with_reducible refine cd_lenT ?_
  | with_reducible refine cd_abs ?_
  | with_reducible refine cd_intI ?_
  | with_reducible refine cd_intB ?_
  | with_reducible refine cd_strS ?_
  | with_reducible refine cd_listT ?_
  | with_reducible refine cd_tupleL ?_
  | with_reducible refine sd_L ?_
  | with_reducible refine sd_T ?_
  | with_reducible refine gd_name ?_
  | ((with_reducible refine' ed_lcL1y ?hv ?_); (case hv => exact rfl))
  | ((with_reducible refine' ed_lcT1y ?hv ?_); (case hv => exact rfl))
  | ((with_reducible refine' ed_lcL1 ?hv ?_); (case hv => exact rfl))
  | ((with_reducible refine' ed_lcT1 ?hv ?_); (case hv => exact rfl))
  | with_reducible refine exB ?_
  | with_reducible refine exI ?_
  | with_reducible refine exS ?_
  | with_reducible refine exL ?_
  | with_reducible refine exT ?_
  | with_reducible refine exLs ?_
  | with_reducible refine exIs ?_
  | with_reducible refine ex2 ?_
  | with_reducible refine ex3 ?_
  | with_reducible refine ln0 ?_
  | with_reducible refine ln1 ?_
  | with_reducible refine ln2 ?_
  | with_reducible refine ln3 ?_
  | with_reducible refine ln4 ?_
  | with_reducible refine ln5 ?_
  | with_reducible refine ln6 ?_
  | with_reducible refine ln7 ?_
  | with_reducible refine ln8 ?_
  | with_reducible refine ln9 ?_
  | with_reducible refine ln10 ?_
  | with_reducible refine ln11 ?_
  | with_reducible refine ln12 ?_
  | with_reducible refine cTT ?_
  | with_reducible refine cFT ?_
  | with_reducible refine cTF ?_
  | with_reducible refine cFF ?_
  | with_reducible refine nTT ?_
  | with_reducible refine nFT ?_
  | with_reducible refine nTF ?_
  | with_reducible refine nFF ?_
  | refine rd_ixT0 ?_
  | refine rd_ixL0 ?_
  | refine rd_ixT rfl ?_
  | refine rd_ixL rfl ?_)
local macro_rules | `(tactic| walk_at "dl") => `(tactic| repeat (walk_at "dl1"))
local macro_rules | `(tactic| walk_at "call1") => `(tactic| ((refine ⟨_, rfl, ?hcd, fun r hr => ?hcr⟩); (case hcd => first | assumption | rfl); (case hcr => (subst hr; try walk_at "dl"))))
local macro_rules | `(tactic| walk_at "and") => `(tactic| (refine ed_andE ?_; try walk_at "dl"))
local macro_rules | `(tactic| walk_at "k") => `(tactic| ((first | refine ct rfl ?_ | refine cf rfl ?_ | refine ct' rfl ?_ | refine cf' rfl ?_); try walk_at "dl"))
structure Laws : Prop where
  gen : ∀ (n : Nat) (ss : List Stp), 1 ≤ n → n ≤ 2 → GenSs n ss → GoodSs n ss ∧ (textOf ss).length ≤ 2500 ∧ rdText n (.str (textOf ss)) = .ok ss ∧ PyData.plainAll (ss.map Stp.d) = true ∧ PyData.depthAll (ss.map Stp.d) ≤ 20
  due : ∀ (n : Nat) (t : PySem.Str), 1 ≤ n → n ≤ 2 → t.length ≤ 50000 → match rdText n (.str t) with
    | .ok ss => dueL n (textLines t) = .none ∧ (∀ s ∈ ss, s.lok) ∧ (linesAll ss).length ≤ 500000 ∧ ((linesAll ss).map (·.length)).sum + (linesAll ss).length * 1 ≤ 16777216 ∧ textOf ss = t
    | .error k => dueL n (textLines t) = .int k
section
variable {K : PySem.W.Frag} {b : Addr} {ns : List Int} {ρ : Rho} {Ez : Addr → Hp → Prop} {D : EndD} {E : XK}
/-- a jar of its own for what follows -/
theorem sd_jar {n m i : Nat} {k : Int} {rest : TS} (hn : ρ[n]? = some (.adr b)) (hm : ρ[m]? = some (.dat (.int k))) (k0 : 0 ≤ k) (k1 : k ≤ 1000) (hns : ns.length ≤ 63) (hi : i < ρ.length) (h : ∀ j, StD (jarM j) K Ez rest (ρ.set i (.adr j)) D) (hz : ∀ n, ¬ D.rz n) :
    StD (scrM K b ns) K Ez (tSeq (tAsg (tCall (spJar K) [] E (tCons (tVar n) (tCons (tVar m) tNil))) (gName i)) rest) ρ D := fun Ds σ H e iv p => by
  obtain ⟨v, hv, dv⟩ := e.dat hm
  rw [dt_int dv] at hv
  have hlen : i < σ.length := by have := (Paired.length e).symm; omega
  refine ⟨.ref b, e.adr hn, .int k, hv, ?_⟩
  refine ⟨b, ns, k, rfl, iv, hns, k0, k1, fun q x y H1 hs hq x0 y0 y1 => ?_⟩
  have s2 : Same H (upd H1 q (.lst [.int x, .int y])) := hs.trans (same_new hq)
  refine h q Ds _ _ ?_ ⟨x, y, upd_same, x0, y0, y1⟩ ?_
  · have mv : ∀ a o, ¬ (scrM K b ns).vol a → H a = some o → (upd H1 q (.lst [.int x, .int y])) a = some o ∧ ¬ a = q := fun a o _ z => ⟨s2 a o z, fun w => by rw [w] at z; rw [hs _ _ z] at hq; cases hq⟩
    exact DL.Env.set (o := some (.ref q)) (e := .adr q) rfl i (e.move mv)
  · have back : ∀ H', RJ q (upd H1 q (.lst [.int x, .int y])) H' → Same H H' := fun H' r a o z => r.1 a o (fun w => by rw [w] at z; rw [hs _ _ z] at hq; cases hq) (s2 a o z)
    have mvb : ∀ H' : Hp, ∀ (a : Addr) (o : HO), ¬ a = q → H' a = some o → H' a = some o ∧ ¬ (scrM K b ns).vol a := fun _ a o _ z => ⟨z, id⟩
    exact ⟨fun σ' H' ρ' r e' z => p.nx σ' H' ρ' (back _ r) (e'.move (mvb _)) z, fun v H' d r dv z => p.rt v H' d (back _ r) (Dt.move (mvb _) _ _ dv) z, fun σ' H' ρ' r e' z => p.bk σ' H' ρ' (back _ r) (e'.move (mvb _)) z, fun σ' H' ρ' r e' z => p.ct σ' H' ρ' (back _ r) (e'.move (mvb _)) z, fun d H' n _ _ _ z => absurd z (hz n)⟩
end
theorem cd_minI {M : Md} {K : PySem.W.Frag} {Φ : PyData → Prop} {i j : Int} (q : Φ (.int (if j < i then j else i))) : CD M K rMinI [.int i, .int j] Φ := fun vs H dv _ Q k => by
  rw [dtAll_2 dv]
  exact ⟨i, j, rfl, k _ H _ (M.refl H) (.int _) q⟩
theorem cd_maxI {M : Md} {K : PySem.W.Frag} {Φ : PyData → Prop} {i j : Int} (q : Φ (.int (if j > i then j else i))) : CD M K rMaxI [.int i, .int j] Φ := fun vs H dv _ Q k => by
  rw [dtAll_2 dv]
  exact ⟨i, j, rfl, k _ H _ (M.refl H) (.int _) q⟩
def spLaw (K : PySem.W.Frag) : Sp := fun vs H Q _ => ∃ (a : Addr) (ns : List Int), vs = [.ref a] ∧ SqL K H a (ns.map V.int) ∧ ns.length ≤ 63 ∧ ∀ H', Q (.bl true) H'
def iLaw (b : Addr) (ρ : Rho) : Prop := ∃ e1 e2 e3 e4 e5 e6 e7 e8 e9 e10 e11 e12 : Ent, ρ = [.adr b, e1, e2, e3, e4, e5, e6, e7, e8, e9, e10, e11, e12]
theorem if_both {M : Md} {K : PySem.W.Frag} {ta tb : TE} {ρ : Rho} {c : Bool} {Φ : PyData → Prop} (good : PyData → Prop) (h : ∀ d, good d → Φ d) (h1 : EvD M K ta ρ good) (h2 : EvD M K tb ρ good) : (c = true → EvD M K ta ρ Φ) ∧ (c = false → EvD M K tb ρ Φ) :=
  ⟨fun _ σ H e i Q k => h1 σ H e i Q fun v H' d r dv g => k v H' d r dv (h d g), fun _ σ H e i Q k => h2 σ H e i Q fun v H' d r dv g => k v H' d r dv (h d g)⟩
def isI : PyData → Int → Bool
  | .int a, b => decide (a = b)
  | _, _ => false
theorem isI_eq {d : PyData} {b : Int} (h : isI d b = true) : d = .int b := by
  cases d with
  | int a => exact congrArg PyData.int (of_decide_eq_true h)
  | _ => cases h
theorem rd_of_due (LW : Laws) {n : Nat} {s : PySem.Str} {k : Int} (h1 : 1 ≤ n) (h2 : n ≤ 2) (hs : s.length ≤ 50000) (h : dueL n (textLines s) = .int k) : rdText (n : Int) (.str s) = .error k := by
  have hd := LW.due n s h1 h2 hs
  cases hr : rdText (n : Int) (.str s) with
  | error q =>
    rw [hr] at hd
    have hd : dueL n (textLines s) = .int q := hd
    rw [h] at hd
    cases hd
    rfl
  | ok ss =>
    rw [hr] at hd
    have hd := hd.1
    rw [h] at hd
    cases hd
def iIn (b : Addr) (k : Nat) (j : Addr) (wd steps : PyData) (t : PySem.Str) (ρ : Rho) : Prop := ∃ e6 e7 e8 e9 e10 e11 e12 : Ent, ρ = [.adr b, .dat (.int k), .adr j, .dat wd, .dat steps, .dat (.str t), e6, e7, e8, e9, e10, e11, e12]
local macro_rules | `(tactic| walk_at "dl1") => `(tactic| first
  | with_reducible refine cd_minI ?_
  | with_reducible refine cd_maxI ?_
  | ((with_reducible refine' ed_lenScr ?hn ?_); (case hn => exact rfl))
  | ((with_reducible refine' sd_jar ?hn ?hm ?_ ?_ ?hns ?hi ?_ ?hz); (case hn => exact rfl); (case hm => exact rfl); (case hns => assumption); (case hi => exact Nat.le_of_ble_eq_true rfl); (case hz => exact fun _ z => z)))
theorem ok_law {P : Program} {w : World} {K : PySem.W.Frag} {mg : PySem.Str → Option Value} {base : Heap} {a : Ads} {d : Fds} {C fI cc cda : Addr} (LW : Laws) (T : Txt K mg a d) (TE : PySem.TxE.ErrTxt P K mg C fI cc cda) : FnOk P w K mg base CX0 40 a.law d.law P_law (spLaw K) := by
  have G_law_jar := ok_law_jar (P := P) (w := w) (base := base) T
  have G_law_world := ok_law_world (P := P) (w := w) (base := base) T
  have G_law_script := ok_law_script (P := P) (w := w) (base := base) T
  have G_law_kinds := ok_law_kinds (P := P) (w := w) (base := base) T
  have G_law_lines := ok_law_lines (P := P) (w := w) (base := base) T
  have G_script_text := ok_script_text (P := P) (w := w) (base := base) T
  have G_law_read := ok_law_read (P := P) (w := w) (base := base) T TE
  have G_law_bent := ok_law_bent (P := P) (w := w) (base := base) T
  have G_law_due := ok_law_due (P := P) (w := w) (base := base) T
  refine T.F_law.ok sc_law (fun vs H Q E h => ?_) (fun cdv A outer s H vs Q E hr h => ?_)
  · obtain ⟨a, ns, rfl, _⟩ := h
    rfl
  refine ⟨_, (pss_cons (ps_for PassesOwn.never rfl (pi_range1 rfl T.range (pa_cons (pe_callB (cMax rfl) (by rfl) T.max (by decide +kernel) (pa_cons pe_int (pa_cons (pe_callB (cMin rfl) (by rfl) T.min (by decide +kernel) (pa_cons pe_int (pa_cons (pe_op oAddI (pe_callB cLen (by rfl) T.len (by decide +kernel) (pa_cons (pv 0) pa_nil)) pe_int) pa_nil))) pa_nil))) pa_nil)) (pg_name (i := 1) sc_law.nd rfl (Or.inl rfl)) (pss_cons (ps_set (i := 2) sc_law.nd rfl (Or.inl rfl) (pe_call G_law_jar (hr.mono (by decide)) rfl T.g_law_jar T.k_law_jar T.b_law_jar .nil pass0 (pa_cons (pv 0) (pa_cons (pv 1) pa_nil)))) (pss_cons (ps_set (i := 3) sc_law.nd rfl (Or.inr rfl) (pe_call G_law_world (hr.mono (by decide)) rfl T.g_law_world T.k_law_world T.b_law_world .nil pass0 (pa_cons (pv 2) pa_nil))) (pss_cons (ps_set (i := 4) sc_law.nd rfl (Or.inl rfl) (pe_call G_law_script (hr.mono (by decide)) rfl T.g_law_script T.k_law_script T.b_law_script .nil pass0 (pa_cons (pv 2) (pa_cons (pv 3) (pa_cons pe_int (pa_cons (pe_call0 G_law_kinds (hr.mono (by decide)) rfl T.g_law_kinds T.k_law_kinds T.b_law_kinds .nil pass0) pa_nil)))))) (pss_cons (ps_set (i := 5) sc_law.nd rfl (Or.inl rfl) (pe_m1 F.slot_str_join F.type_str_join mJoin pe_str (pe_call G_law_lines (hr.mono (by decide)) rfl T.g_law_lines T.k_law_lines T.b_law_lines .nil pass0 (pa_cons (pv 4) pa_nil)))) (pss_cons (ps_if (PW.pt (pw_or (pt_cmpR (oNeP hr.units) (pe_call G_script_text (hr.mono (by decide)) rfl T.g_script_text T.k_script_text T.b_script_text .nil pass0 (pa_cons (pv 3) (pa_cons (pv 4) pa_nil))) (pv 5) rfl) (pw_or1 (pt_cmpR (oNeP hr.units) (pe_call G_law_read (hr.mono (by decide)) rfl T.g_law_read T.k_law_read T.b_law_read .nil pass0 (pa_cons (pv 3) (pa_cons (pv 5) pa_nil))) (pv 4) rfl)))) (pss_one (ps_ret pe_bl)) pss_nil) (pss_cons (ps_for PassesOwn.never rfl (pi_range1 rfl T.range (pa_cons pe_int pa_nil)) (pg_name (i := 6) sc_law.nd rfl (Or.inl rfl)) (pss_cons (ps_set (i := 7) sc_law.nd rfl (Or.inl rfl) (pe_call G_law_bent (hr.mono (by decide)) rfl T.g_law_bent T.k_law_bent T.b_law_bent .nil pass0 (pa_cons (pv 2) (pa_cons (pv 5) pa_nil)))) (pss_cons (ps_set (i := 7) sc_law.nd rfl (Or.inl rfl) (pe_ifExp (pt_cmpR (oEqP hr.units) (pe_op oModI (pv 6) pe_int) pe_int rfl) (pe_call G_law_bent (hr.mono (by decide)) rfl T.g_law_bent T.k_law_bent T.b_law_bent .nil pass0 (pa_cons (pv 2) (pa_cons (pv 7) pa_nil))) (pv 7))) (pss_cons (ps_par rfl sc_law.nd (i := 8) (j := 9) rfl rfl (by decide) rfl rfl (pa_cons (pe_call G_law_read (hr.mono (by decide)) rfl T.g_law_read T.k_law_read T.b_law_read .nil pass0 (pa_cons (pv 3) (pa_cons (pv 7) pa_nil))) (pa_cons (pe_call G_law_due (hr.mono (by decide)) rfl T.g_law_due T.k_law_due T.b_law_due .nil pass0 (pa_cons (pv 7) (pa_cons (pe_callB cLen (by rfl) T.len (by decide +kernel) (pa_cons (pe_ix ixTu (pv 3) pe_int (fun _ _ => rfl)) pa_nil)) pa_nil))) pa_nil)) rfl) (pss_cons (ps_if (PW.pt (pw_and (pt_cmpR oNotNo (pv 9) pe_non rfl) (pw_and1 (PW.pt (pw_or (pt_cmpR (oNeP hr.units) (pv 8) (pv 9) rfl) (pw_or1 (pt_val (pe_callB call_isi (by rfl) T.isinstance (by decide +kernel) (pa_cons (pv 8) (pa_cons (pe_bltn (v := .ty "bool") (by rfl) T.bool (by decide +kernel) rfl) pa_nil)))))))))) (pss_one (ps_ret pe_bl)) pss_nil) (pss_one (ps_if (PW.pt (pw_and (pt_cmpR oIsNo (pv 9) pe_non rfl) (pw_and1 (pt_cmpR (oNeP hr.units) (pe_m1 F.slot_str_join F.type_str_join mJoin pe_str (pe_call G_law_lines (hr.mono (by decide)) rfl T.g_law_lines T.k_law_lines T.b_law_lines .nil pass0 (pa_cons (pv 8) pa_nil))) (pv 7) rfl)))) (pss_one (ps_ret pe_bl)) pss_nil))))))) (pss_cons (ps_for PassesOwn.never rfl (pi_list (pe_lst (pa_cons pe_non (pa_cons pe_int (pa_cons pe_bl (pa_cons (pe_lst (pa_cons pe_str pa_nil)) (pa_cons (pe_tup (pa_cons pe_str pa_nil)) pa_nil))))))) (pg_name (i := 10) sc_law.nd rfl (Or.inl rfl)) (pss_one (ps_if (pt_cmpR (oNeP hr.units) (pe_call G_law_read (hr.mono (by decide)) rfl T.g_law_read T.k_law_read T.b_law_read .nil pass0 (pa_cons (pv 3) (pa_cons (pv 10) pa_nil))) pe_int rfl) (pss_one (ps_ret pe_bl)) pss_nil))) (pss_cons (ps_set (i := 11) sc_law.nd rfl (Or.inl rfl) (pe_lst (pa_cons (pe_tup (pa_cons (pe_op oAddS (pe_op ZM.op_repS pe_str pe_int) pe_str) (pa_cons pe_int pa_nil))) (pa_cons (pe_tup (pa_cons pe_str (pa_cons pe_int pa_nil))) (pa_cons (pe_tup (pa_cons pe_str (pa_cons pe_int pa_nil))) (pa_cons (pe_tup (pa_cons pe_str (pa_cons pe_int pa_nil))) pa_nil)))))) (pss_cons (ps_expr (pe_bm PySem.F.plainAttrs_list PySem.F.slot_list_append PySem.F.type_list_append mt_append (pv 11) (pa_cons (pe_tup (pa_cons pe_str (pa_cons pe_int pa_nil))) pa_nil))) (pss_one (ps_if (pt_cmpR (oNeP hr.units) (pe_lc (own := [("_law_one", 12), ("_law_due_here", 9)]) (g := gTup K 2 (gCons (gName 12) (gCons (gName 9) gNil))) rfl sc_law.nd (pi_list (pv 11)) (blkOk_by (own := [("_law_one", 12), ("_law_due_here", 9)]) (N := N_law) (sc := defScope s_law) (by decide +kernel)) (fun _ _ _ _ _ => pg_tup rfl (pgs_cons (pg_name (i := 12) sc_law.nd rfl (Or.inl rfl)) (pgs_cons (pg_name (i := 9) sc_law.nd rfl (Or.inl rfl)) pgs_nil))) (fun _ _ _ _ _ => (pts_one (pt_cmpR (r := rNeP K) (oNeP hr.units) (pe_call G_law_read (hr.mono (by decide)) rfl T.g_law_read T.k_law_read T.b_law_read .nil pass0 (pa_cons (pv 3) (pa_cons (pv 12) pa_nil))) (pv 9) rfl))) (fun _ _ _ _ _ => (pv 12))) (pe_lst pa_nil) rfl) (pss_one (ps_ret pe_bl)) pss_nil)))))))))))) (pss_one (ps_ret pe_bl))), ?_⟩
  try dsimp only [cxOf, List.map_cons, List.map_nil]
  obtain ⟨b, ns, rfl, hb, hns, hq⟩ := h
  have e0 : DL.Env K (fun _ => False) H (L2.start N_law [.ref b]) [.adr b, .no, .no, .no, .no, .no, .no, .no, .no, .no, .no, .no, .no] :=
    .cons rfl (.cons trivial (.cons trivial (.cons trivial (.cons trivial (.cons trivial (.cons trivial (.cons trivial (.cons trivial (.cons trivial (.cons trivial (.cons trivial (.cons trivial .nil))))))))))))
  refine (?_ : StD (scrM K b ns) K (fun _ _ => True) _ _ { nx := fun _ => False, rt := fun d => d = .bool true }) _ _ H e0 hb ⟨fun _ _ _ _ _ z => z.elim, fun v H' d _ dv z => ?_, fun _ _ _ _ _ z => z.elim, fun _ _ _ _ _ z => z.elim, fun _ _ _ _ _ _ _ => trivial⟩
  rotate_left
  · subst z
    cases dv
    exact hq _
  walk_at "dl"
  refine sd_forR ?_
  walk_at "dl"
  generalize hm : (if (if (ns.length + 3 : Int) < 12 then (ns.length + 3 : Int) else 12) > 4 then (if (ns.length + 3 : Int) < 12 then (ns.length + 3 : Int) else 12) else 4) = m
  have hm1 : 4 ≤ m ∧ m ≤ 12 := by
    rw [← hm]
    split <;> split <;> omega
  refine ⟨⟨by omega, by omega⟩, fun _ => iLaw b, ⟨_, _, _, _, _, _, _, _, _, _, _, _, rfl⟩, fun k ρ' hk hI => ?_, fun ρ' hI => ?_⟩
  rotate_left
  · obtain ⟨e1, e2, e3, e4, e5, e6, e7, e8, e9, e10, e11, e12, rfl⟩ := hI
    walk_at "dl"
    rfl
  obtain ⟨e1, e2, e3, e4, e5, e6, e7, e8, e9, e10, e11, e12, rfl⟩ := hI
  have hk : (k : Int) ≤ 1000 := by omega
  walk_at "dl"
  · omega
  · exact hk
  intro j
  walk_at "dl"
  refine ⟨(), rfl, trivial, fun r hr => ?_⟩
  obtain ⟨W, rfl, hW⟩ := hr
  walk_at "dl"
  refine ⟨(), rfl, trivial, fun r hr => ?_⟩
  subst hr
  walk_at "dl"
  refine ⟨((W.tapes.map tp, [pr W.pencil, pr W.saw]), 4, KL), rfl, ⟨by simpa using hW.len, ⟨show (0 : Int) ≤ 4 by decide, show (4 : Int) ≤ 4 by decide⟩, show KL ≠ [] by decide +kernel, show KL.length ≤ 100 by decide +kernel, show ∀ k ∈ KL, k ∈ KINDS by decide +kernel⟩, fun r hr => ?_⟩
  obtain ⟨ss, rfl, hss⟩ := hr
  rw [show ((W.tapes.map tp, [pr W.pencil, pr W.saw]), (4 : Int), KL).fst.fst.length = W.tapes.length from List.length_map ..] at hss
  generalize hn : W.tapes.length = n at hss
  have n1 : 1 ≤ n ∧ n ≤ 2 := by rcases hW.len with h | h <;> omega
  obtain ⟨gs, tl, rd, pl, dp⟩ := LW.gen n ss n1.1 n1.2 hss
  walk_at "dl"
  refine ⟨ss, rfl, ⟨gs.lok, gs.ll⟩, fun r hr => ?_⟩
  subst hr
  walk_at "dl"
  refine md_joinL gs.sum ?_
  have ht2 : Txt.join (PySem.Str.ofString "\n") (linesAll ss) = textOf ss := rfl
  rw [ht2]
  generalize textOf ss = t at tl rd ht2 ⊢
  walk_at "dl"
  refine ⟨(W, ss), rfl, ⟨hW, by show GoodSs ((W.tapes.length : Nat) : Int) ss; rw [hn]; exact gs⟩, fun r hr => ?_⟩
  have hr : r = .str t := hr.trans (congrArg PyData.str ht2)
  subst hr
  walk_at "dl"
  refine rd_neP okEq_ss ?_
  rw [show PyData.eqv (.str t) (.str t) = true from PySem.SeqAt.eqv_refl_plain _ rfl]
  walk_at "dl"
  refine ⟨(W, .str t), rfl, ⟨hW, rfl, fun s e => by cases e; omega⟩, fun r hr => ?_⟩
  have hr : r = .tuple (ss.map Stp.d) := by
    rw [hr]
    show resD (rdText ((W.tapes.length : Nat) : Int) (.str t)) = _
    rw [hn, rd]
    rfl
  subst hr
  have pl2 : PyData.plain (.tuple (ss.map Stp.d)) = true := pl
  have dp2 : (PyData.tuple (ss.map Stp.d)).depth ≤ 21 := by
    show _ + 1 ≤ 21
    omega
  walk_at "dl"
  refine rd_neP ⟨pl2, pl2, by omega⟩ ?_
  rw [PySem.SeqAt.eqv_refl_plain _ pl2]
  walk_at "dl"
  refine sd_forR ?_
  walk_at "dl"
  refine ⟨⟨by decide, by decide⟩, fun _ => iIn b k j W.d (.tuple (ss.map Stp.d)) t, ⟨_, _, _, _, _, _, _, rfl⟩, fun turn ρ' hturn hI => ?_, fun ρ' hI => ?_⟩
  · obtain ⟨e6, e7, e8, e9, e10, e11, e12, rfl⟩ := hI
    walk_at "dl"
    refine ⟨t, rfl, by omega, fun r hr => ?_⟩
    obtain ⟨u, rfl, hu⟩ := hr
    walk_at "dl"
    refine rd_modI (by decide) ?_
    walk_at "dl"
    refine rd_eqP okEq_ii ?_
    walk_at "dl"
    refine if_both (fun d => ∃ u : PySem.Str, d = .str u ∧ u.length ≤ 50000) (fun d hd => ?_) ?_ ?_
    rotate_left
    · walk_at "dl"
      refine ⟨u, rfl, by omega, fun r hr => ?_⟩
      obtain ⟨u2, rfl, hu2⟩ := hr
      walk_at "dl"
      omega
    · walk_at "dl"
      omega
    obtain ⟨u2, rfl, hu2⟩ := hd
    walk_at "dl"
    have hdue := LW.due n u2 n1.1 n1.2 hu2
    refine ⟨(W, .str u2), rfl, ⟨hW, rfl, fun s e => by cases e; exact hu2⟩, fun r hr => ?_⟩
    have hr : r = resD (rdText (n : Int) (.str u2)) := by
      rw [hr, ← hn]
    subst hr
    walk_at "dl"
    refine ⟨(u2, n), by rw [List.length_map, hn], ⟨hu2, n1.2⟩, fun r hr => ?_⟩
    subst hr
    cases hrd : rdText (n : Int) (.str u2) with
    | error q =>
      rw [hrd] at hdue
      have hdue : dueL n (textLines u2) = .int q := hdue
      rw [hdue, show resD (Except.error q) = PyData.int q from rfl]
      walk_at "dl"
      walk_at "k"
      refine rd_neP okEq_ii ?_
      rw [PySem.SeqAt.eqv_refl_plain _ rfl]
      walk_at "dl"
      refine ⟨false, by rfl, ?_⟩
      walk_at "dl"
      walk_at "k"
      exact ⟨_, _, _, _, _, _, _, rfl⟩
    | ok ss2 =>
      rw [hrd] at hdue
      obtain ⟨hd0, hlok, hll, hsum, htx⟩ := hdue
      rw [hd0, show resD (Except.ok ss2) = PyData.tuple (ss2.map Stp.d) from rfl]
      walk_at "dl"
      walk_at "k"
      walk_at "k"
      refine ⟨ss2, rfl, ⟨hlok, hll⟩, fun r hr => ?_⟩
      subst hr
      walk_at "dl"
      refine md_joinL hsum ?_
      rw [show Txt.join (PySem.Str.ofString "\n") (linesAll ss2) = u2 from htx]
      walk_at "dl"
      refine rd_neP okEq_ss ?_
      rw [PySem.SeqAt.eqv_refl_plain _ rfl]
      walk_at "dl"
      exact ⟨_, _, _, _, _, _, _, rfl⟩
  · obtain ⟨e6, e7, e8, e9, e10, e11, e12, rfl⟩ := hI
    walk_at "dl"
    refine sd_forL ?_
    walk_at "dl"
    refine ⟨fun _ => iIn b k j W.d (.tuple (ss.map Stp.d)) t, ⟨_, _, _, _, _, _, _, rfl⟩, fun i x ρ' hx hI => ?_, fun ρ' hI => ?_⟩
    · obtain ⟨e6, e7, e8, e9, e10, e11, e12, rfl⟩ := hI
      have hodd : rdText (n : Int) x = .error 0 ∧ strMax x := by
        have hm := List.mem_of_getElem? hx
        simp only [List.mem_cons, List.not_mem_nil, or_false] at hm
        rcases hm with h | h | h | h | h <;> (subst h; exact ⟨rfl, by decide +kernel, fun s e => by cases e⟩)
      walk_at "dl"
      refine ⟨(W, x), rfl, ⟨hW, hodd.2⟩, fun r hr => ?_⟩
      have hr : r = .int 0 := by
        rw [hr, show ((W, x).fst.tapes.length : Int) = (n : Int) from congrArg Nat.cast hn, hodd.1]
        rfl
      subst hr
      walk_at "dl"
      refine rd_neP okEq_ii ?_
      rw [PySem.SeqAt.eqv_refl_plain _ rfl]
      walk_at "dl"
      exact ⟨_, _, _, _, _, _, _, rfl⟩
    · obtain ⟨e6, e7, e8, e9, e10, e11, e12, rfl⟩ := hI
      walk_at "dl"
      refine rd_repS ?_
      walk_at "dl"
      refine rd_addS (by decide +kernel) ?_
      walk_at "dl"
      refine ⟨show 4 ≤ 1000 by decide, .tuple [.str "if a b\nelse\nend", .int 1], fun M' => ?_, ?_⟩
      · walk_at "dl"
        rfl
      walk_at "dl"
      refine ed_lcP rfl (by decide) ?_
      walk_at "dl"
      have hrow : ∀ y z, PyData.tuple [y, z] ∈ [.tuple [.str (ZM.hld6 ++ "hold a b"), .int 8], .tuple [.str "if a b same\nelse", .int 3], .tuple [.str "end", .int 2], .tuple [.str "hold a b\n", .int 2]] ++ [PyData.tuple [.str "if a b\nelse\nend", .int 1]] → ∃ q, z = .int q ∧ rdText (n : Int) y = .error q ∧ strMax y := by
        intro y z hm
        simp only [List.cons_append, List.nil_append, List.mem_cons, List.not_mem_nil, or_false, PyData.tuple.injEq, List.cons.injEq, and_true] at hm
        have hn12 : n = 1 ∨ n = 2 := by omega
        rcases hm with ⟨rfl, rfl⟩ | ⟨rfl, rfl⟩ | ⟨rfl, rfl⟩ | ⟨rfl, rfl⟩ | ⟨rfl, rfl⟩ <;>
          exact ⟨_, rfl, rd_of_due LW n1.1 n1.2 (by decide +kernel) (by rcases hn12 with h | h <;> subst h <;> exact isI_eq (by decide +kernel)), by decide +kernel, fun s e => by cases e; decide +kernel⟩
      refine ⟨by decide, fun x hx => ?_, fun _ _ => false, fun y _ => y, fun y z hyz M' => ?_, ?_⟩
      · simp only [List.cons_append, List.nil_append, List.mem_cons, List.not_mem_nil, or_false] at hx
        rcases hx with rfl | rfl | rfl | rfl | rfl <;> exact ⟨_, _, rfl⟩
      · obtain ⟨q, rfl, hq1, hq2⟩ := hrow y z hyz
        walk_at "dl"
        refine ⟨(W, y), rfl, ⟨hW, hq2⟩, fun r hr => ?_⟩
        have hr : r = .int q := by
          rw [hr, show ((W, y).fst.tapes.length : Int) = (n : Int) from congrArg Nat.cast hn, hq1]
          rfl
        subst hr
        walk_at "dl"
        refine rd_neP okEq_ii ?_
        rw [PySem.SeqAt.eqv_refl_plain _ rfl]
        walk_at "dl"
        exact ⟨rfl, fun z => by cases z⟩
      · walk_at "dl"
        show RD _ _ _ (.list []) _ _
        refine rd_neP ⟨rfl, rfl, by decide⟩ ?_
        rw [PySem.SeqAt.eqv_refl_plain _ rfl]
        walk_at "dl"
        exact ⟨_, _, _, _, _, _, _, _, _, _, _, _, rfl⟩
end CL
set_option Elab.async false
set_option linter.all false
set_option maxRecDepth 100000
set_option maxHeartbeats 2000000
namespace CL
open PySem L2 DL
local macro_rules | `(tactic| walk_at "dl1") => `(tactic| first
  | ((with_reducible refine' ed_var ?hv ?_); (case hv => exact rfl))
  | with_reducible refine ed_int ?_
  | with_reducible refine ed_str ?_
  | with_reducible refine ed_bl ?_
  | with_reducible refine ed_non ?_
  | ((with_reducible refine' ed_jar0 ?hj ?_); (case hj => exact rfl); intro x hx)
  | ((with_reducible refine' ed_jar1 ?hj ?_); (case hj => exact rfl); intro x hx hx2)
  | ((with_reducible refine' ed_callJ ?hj ?_); (case hj => exact rfl))
  | ((with_reducible refine' sd_lapp ?hi ?_); (case hi => exact Nat.le_of_ble_eq_true rfl))
  | ((with_reducible refine' sd_jset0 ?hj ?_); (case hj => exact rfl))
  | ((with_reducible refine' sd_jset1 ?hj ?_); (case hj => exact rfl))
  | with_reducible refine ed_op ?_
  | with_reducible refine ea_cons ?_
  | with_reducible refine ea_nil ?_
  | with_reducible refine ed_isi ?_
  | with_reducible refine ed_cb ?_
  | with_reducible refine ed_zip ?_
  | with_reducible refine ed_sset ?_
  | with_reducible refine ed_rg1 ?_
  | with_reducible refine ed_rg2 ?_
  | with_reducible refine ed_call ?_
  | with_reducible refine ed_tup ?_
  | with_reducible refine ed_lst ?_
  | with_reducible refine ed_andV ?_
  | with_reducible refine ed_orV ?_
  | with_reducible refine ed_notV ?_
  | with_reducible refine ed_chain ?_
  | with_reducible refine ed_if ?_
  | with_reducible refine ed_un ?_
  | with_reducible refine ed_sl ?_
  | with_reducible refine ed_revL ?_
  | with_reducible refine ed_m1 ?_
  | with_reducible refine eo_no ?_
  | with_reducible refine eo_some ?_
  | with_reducible refine et_test ?_
  | with_reducible refine et_B ?_
  | with_reducible refine et_and ?_
  | with_reducible refine et_or ?_
  | with_reducible refine et_not ?_
  | with_reducible refine et_yes ?_
  | with_reducible refine sb_start (Nat.le_of_ble_eq_true rfl) (fun M' => ?_)
  | with_reducible refine sd_seq ?_
  | with_reducible refine ep_cons ?_
  | with_reducible refine ep_nil ?_
  | with_reducible refine sd_next ?_
  | with_reducible refine sd_set ?_
  | with_reducible refine sd_ret ?_
  | with_reducible refine sd_drop ?_
  | with_reducible refine sd_if ?_
  | with_reducible refine sd_par ?_
  | with_reducible refine sd_par3 ?_
  | with_reducible refine rd_addI ?_
  | with_reducible refine rd_subI ?_
  | with_reducible refine rd_ltI ?_
  | with_reducible refine rd_leI ?_
  | with_reducible refine rd_gtI ?_
  | with_reducible refine rd_geI ?_
  | with_reducible refine rd_isNo ?_
  | with_reducible refine rd_notNo ?_
  | with_reducible refine cd_lenL ?_
  | with_reducible refine cd_lenT ?_
  | with_reducible refine cd_abs ?_
  | with_reducible refine cd_intI ?_
  | with_reducible refine cd_intB ?_
  | with_reducible refine cd_strS ?_
  | with_reducible refine cd_listT ?_
  | with_reducible refine cd_tupleL ?_
  | with_reducible refine sd_L ?_
  | with_reducible refine sd_T ?_
  | with_reducible refine gd_name ?_
  | ((with_reducible refine' ed_lcL1y ?hv ?_); (case hv => exact rfl))
  | ((with_reducible refine' ed_lcT1y ?hv ?_); (case hv => exact rfl))
  | ((with_reducible refine' ed_lcL1 ?hv ?_); (case hv => exact rfl))
  | ((with_reducible refine' ed_lcT1 ?hv ?_); (case hv => exact rfl))
  | with_reducible refine exB ?_
  | with_reducible refine exI ?_
  | with_reducible refine exS ?_
  | with_reducible refine exL ?_
  | with_reducible refine exT ?_
  | with_reducible refine exLs ?_
  | with_reducible refine exIs ?_
  | with_reducible refine ex2 ?_
  | with_reducible refine ex3 ?_
  | with_reducible refine ln0 ?_
  | with_reducible refine ln1 ?_
  | with_reducible refine ln2 ?_
  | with_reducible refine ln3 ?_
  | with_reducible refine ln4 ?_
  | with_reducible refine ln5 ?_
  | with_reducible refine ln6 ?_
  | with_reducible refine ln7 ?_
  | with_reducible refine ln8 ?_
  | with_reducible refine ln9 ?_
  | with_reducible refine ln10 ?_
  | with_reducible refine ln11 ?_
  | with_reducible refine ln12 ?_
  | with_reducible refine cTT ?_
  | with_reducible refine cFT ?_
  | with_reducible refine cTF ?_
  | with_reducible refine cFF ?_
  | with_reducible refine nTT ?_
  | with_reducible refine nFT ?_
  | with_reducible refine nTF ?_
  | with_reducible refine nFF ?_
  | refine rd_ixT0 ?_
  | refine rd_ixL0 ?_
  | refine rd_ixT rfl ?_
  | refine rd_ixL rfl ?_)
local macro_rules | `(tactic| walk_at "dl") => `(tactic| repeat (walk_at "dl1"))
local macro_rules | `(tactic| walk_at "call1") => `(tactic| ((refine ⟨_, rfl, ?hcd, fun r hr => ?hcr⟩); (case hcd => first | assumption | rfl); (case hcr => (subst hr; try walk_at "dl"))))
local macro_rules | `(tactic| walk_at "and") => `(tactic| (refine ed_andE ?_; try walk_at "dl"))
local macro_rules | `(tactic| walk_at "k") => `(tactic| ((first | refine ct rfl ?_ | refine cf rfl ?_ | refine ct' rfl ?_ | refine cf' rfl ?_); try walk_at "dl"))
/-! ### texts cut and joined again -/
theorem joinL_cons {S p : List Nat} : ∀ {q : List (List Nat)}, q ≠ [] → TL.joinL S (p :: q) = p ++ (S ++ TL.joinL S q)
  | [], h => absurd rfl h
  | _ :: _, _ => rfl
theorem joinL_spl (S : List Nat) (hS : S ≠ []) : ∀ (n : Nat) (l acc : List Nat), l.length ≤ n → TL.joinL S (TL.spl S 0 acc l) = acc ++ l
  | _, [], acc, _ => by rw [TL.spl_nil]; simp [TL.joinL]
  | 0, c :: r, acc, h => by simp at h
  | n + 1, c :: r, acc, h => by
    have hr : r.length ≤ n := by simpa using h
    cases hc : TL.pre S (c :: r) with
    | true =>
      rw [TL.spl_hit hc, TL.spl_pass]
      have h1 : (r.drop (S.length - 1)).length ≤ r.length := by rw [List.length_drop]; omega
      rw [joinL_cons (spl0_ne _ _ _), joinL_spl S hS n (r.drop (S.length - 1)) [] (by omega)]
      have e : (c :: r).take S.length = S := by
        have : ((c :: r).take S.length == S) = true := hc
        simpa using this
      have hl : 0 < S.length := List.length_pos_iff.mpr hS
      have e2 : r.drop (S.length - 1) = (c :: r).drop S.length := by
        obtain ⟨m, hm⟩ : ∃ m, S.length = m + 1 := ⟨S.length - 1, by omega⟩
        rw [hm]
        rfl
      rw [List.nil_append, e2]
      have e3 := List.take_append_drop S.length (c :: r)
      rw [e] at e3
      rw [e3]
    | false =>
      rw [TL.spl_miss hc, joinL_spl S hS n r (acc ++ [c]) hr]
      simp
theorem join_split {y : PySem.Str} (hy : TL.tl y ≠ []) (hk : y.cps.all (· < 256) = true) (x : PySem.Str) : Txt.join y (Txt.split x y) = x := by
  refine TL.ext_tl ?_
  rw [TL.join_eq, TL.tl_join, TL.split_spl x y hy (TL.kind_ok hk), joinL_spl _ hy _ _ _ (Nat.le_refl _)]
  rfl
theorem join_lines (t : PySem.Str) : Txt.join "\n" (textLines t) = t := by
  unfold textLines
  split
  · rename_i h
    subst h
    decide +kernel
  · exact join_split (by rw [nl_tl]; simp) nl_all t
/-! ### words -/
theorem intOf_num {s : PySem.Str} {k : Int} (h : intOf s = .int k) : ∃ m : Nat, k = m ∧ m ≤ 20 ∧ numS m = s := by
  unfold intOf at h
  split at h
  · rename_i n hn
    cases h
    have h1 := List.find?_some hn
    have h2 := List.mem_of_find?_eq_some hn
    exact ⟨n, rfl, by have := List.mem_range.mp h2; omega, of_decide_eq_true h1⟩
  · cases h
theorem intOf_str {s u : PySem.Str} (h : intOf s = .str u) : u = s := by
  unfold intOf at h
  split at h
  · cases h
  · cases h; rfl
theorem lineW_intOf (s : PySem.Str) : lineW (intOf s) = s := by
  cases h : intOf s with
  | int k =>
    obtain ⟨m, rfl, _, e⟩ := intOf_num h
    exact e
  | str u => exact intOf_str h
  | _ => rcases intOf_flat s with z | z <;> (rw [h] at z; cases z)
theorem sp_join (l : PySem.Str) : Txt.join " " (Txt.split l " ") = l := join_split (by rw [sp_tl]; simp) sp_all l
/-- the line that writes a row -/
def Row.line : Row → PySem.Str
  | .els => "else"
  | .en => "end"
  | .hd a b w => Txt.join " " ["if", a, b, w]
  | .pl p => lineD p
def Row.wd : Row → PySem.Str
  | .els => "else"
  | .en => "end"
  | .hd .. => "if"
  | .pl p => p.1
theorem stepW_line {n : Int} : ∀ {ws : List PySem.Str} {r : Row}, stepW n ws = some r → r.line = Txt.join " " ws ∧ ws.headD "" = r.wd
  | [], r, h => by cases h
  | w :: ws, r, h => by
    by_cases hw : w = "if"
    · rcases ws with _ | ⟨a, _ | ⟨b, _ | ⟨c, _ | ⟨d, t⟩⟩⟩⟩ <;> simp only [stepW, if_pos hw] at h
      · cases h
      · cases h
      · cases h
      · split at h
        · cases h
          rw [hw]
          exact ⟨rfl, rfl⟩
        · cases h
      · cases h
    · have h' : (match intOf w with
        | .str u => if step0 n (.str u :: ws.map intOf) = true then some (Row.pl (u, ws.map intOf)) else none
        | _ => none) = some r := by
        have e : stepW n (w :: ws) = _ := if_neg hw
        exact e.symm.trans h
      cases hi : intOf w with
      | str u =>
        rw [hi] at h'
        dsimp only at h'
        split at h'
        · cases h'
          have hu := intOf_str hi
          subst hu
          refine ⟨?_, rfl⟩
          show Txt.join " " ((.str u :: ws.map intOf).map lineW) = _
          rw [List.map_cons, List.map_map]
          have e2 : (lineW ∘ intOf) = id := funext lineW_intOf
          rw [e2, List.map_id]
          rfl
        · cases h'
      | _ => rw [hi] at h'; cases h'
theorem rowOf_line {n : Int} {l : PySem.Str} {r : Row} (h : rowOf n l = some r) : r.line = l ∧ wd0 l = r.wd := by
  unfold rowOf at h
  split at h
  · rename_i e; cases h; subst e; exact ⟨rfl, by decide +kernel⟩
  · split at h
    · rename_i e; cases h; subst e; exact ⟨rfl, by decide +kernel⟩
    · have := stepW_line h
      rw [sp_join] at this
      exact this
/-! ### the two judges of a line -/
theorem mem_nums {a b : Nat} {s : PySem.Str} : s ∈ numsS a b ↔ ∃ m : Nat, a ≤ m ∧ m < b ∧ numS m = s := by
  unfold numsS
  rw [List.mem_map]
  refine ⟨fun ⟨i, hi, e⟩ => ⟨a + i, by omega, by have := List.mem_range.mp hi; omega, e⟩, fun ⟨m, h1, h2, e⟩ => ⟨m - a, List.mem_range.mpr (by omega), by rw [← e]; congr 1; omega⟩⟩
theorem numS_inj20 : ∀ a ≤ 20, ∀ b ≤ 20, numS a = numS b → a = b := by decide +kernel
theorem intOf_numS : ∀ a : Nat, a ≤ 20 → isI (intOf (numS a)) (a : Int) = true := by decide +kernel
theorem intOf_numE {a : Nat} (h : a ≤ 20) : intOf (numS a) = .int a := isI_eq (intOf_numS a h)
theorem fromD_intOf {lo hi : Nat} (hh : hi ≤ 21) (s : PySem.Str) : fromD lo ((hi : Int) - 1) (intOf s) = decide (s ∈ numsS lo hi) := by
  cases h : intOf s with
  | int k =>
    obtain ⟨m, rfl, h20, e⟩ := intOf_num h
    show (decide ((lo : Int) ≤ m) && decide ((m : Int) ≤ hi - 1)) = _
    rw [← Bool.decide_and]
    refine decide_eq_decide.mpr ?_
    rw [mem_nums]
    refine ⟨fun ⟨h1, h2⟩ => ⟨m, by omega, by omega, e⟩, fun ⟨q, h1, h2, e2⟩ => ?_⟩
    have := numS_inj20 q (by omega) m h20 (e2.trans e.symm)
    subst this
    omega
  | str u =>
    symm
    show decide _ = false
    refine decide_eq_false fun hm => ?_
    obtain ⟨m, h1, h2, e⟩ := mem_nums.mp hm
    rw [← e, intOf_numE (by omega)] at h
    cases h
  | _ => rcases intOf_flat s with z | z <;> (rw [h] at z; cases z)
theorem nm_not_num : ∀ x ∈ NMS, ∀ k ≤ 20, ¬ numS k = x := by decide +kernel
theorem nameD_intOf (s : PySem.Str) : nameD (intOf s) = decide (s ∈ NMS) := by
  cases h : intOf s with
  | int k =>
    obtain ⟨m, rfl, h20, e⟩ := intOf_num h
    symm
    show decide _ = false
    exact decide_eq_false fun hm => nm_not_num s hm m h20 e
  | str u =>
    have := intOf_str h
    subst this
    rfl
  | _ => rcases intOf_flat s with z | z <;> (rw [h] at z; cases z)
theorem kw_str : ∀ w ∈ KINDS, intOf w = .str w := fun w hw => by
  cases h : intOf w with
  | int k =>
    obtain ⟨m, rfl, h20, e⟩ := intOf_num h
    exact absurd e ((by decide +kernel : ∀ w ∈ KINDS, ∀ k ≤ 20, ¬ numS k = w) w hw m h20)
  | str u => rw [intOf_str h]
  | _ => rcases intOf_flat w with z | z <;> (rw [h] at z; cases z)
end CL
set_option Elab.async false
set_option linter.all false
set_option maxRecDepth 100000
set_option maxHeartbeats 2000000
namespace CL
open PySem L2 DL
local macro_rules | `(tactic| walk_at "dl1") => `(tactic| first
  | ((with_reducible refine' ed_var ?hv ?_); (case hv => exact rfl))
  | with_reducible refine ed_int ?_
  | with_reducible refine ed_str ?_
  | with_reducible refine ed_bl ?_
  | with_reducible refine ed_non ?_
  | ((with_reducible refine' ed_jar0 ?hj ?_); (case hj => exact rfl); intro x hx)
  | ((with_reducible refine' ed_jar1 ?hj ?_); (case hj => exact rfl); intro x hx hx2)
  | ((with_reducible refine' ed_callJ ?hj ?_); (case hj => exact rfl))
  | ((with_reducible refine' sd_lapp ?hi ?_); (case hi => exact Nat.le_of_ble_eq_true rfl))
  | ((with_reducible refine' sd_jset0 ?hj ?_); (case hj => exact rfl))
  | ((with_reducible refine' sd_jset1 ?hj ?_); (case hj => exact rfl))
  | with_reducible refine ed_op ?_
  | with_reducible refine ea_cons ?_
  | with_reducible refine ea_nil ?_
  | with_reducible refine ed_isi ?_
  | with_reducible refine ed_cb ?_
  | with_reducible refine ed_zip ?_
  | with_reducible refine ed_sset ?_
  | with_reducible refine ed_rg1 ?_
  | with_reducible refine ed_rg2 ?_
  | with_reducible refine ed_call ?_
  | with_reducible refine ed_tup ?_
  | with_reducible refine ed_lst ?_
  | with_reducible refine ed_andV ?_
  | with_reducible refine ed_orV ?_
  | with_reducible refine ed_notV ?_
  | with_reducible refine ed_chain ?_
  | with_reducible refine ed_if ?_
  | with_reducible refine ed_un ?_
  | with_reducible refine ed_sl ?_
  | with_reducible refine ed_revL ?_
  | with_reducible refine ed_m1 ?_
  | with_reducible refine eo_no ?_
  | with_reducible refine eo_some ?_
  | with_reducible refine et_test ?_
  | with_reducible refine et_B ?_
  | with_reducible refine et_and ?_
  | with_reducible refine et_or ?_
  | with_reducible refine et_not ?_
  | with_reducible refine et_yes ?_
  | with_reducible refine sb_start (Nat.le_of_ble_eq_true rfl) (fun M' => ?_)
  | with_reducible refine sd_seq ?_
  | with_reducible refine ep_cons ?_
  | with_reducible refine ep_nil ?_
  | with_reducible refine sd_next ?_
  | with_reducible refine sd_set ?_
  | with_reducible refine sd_ret ?_
  | with_reducible refine sd_drop ?_
  | with_reducible refine sd_if ?_
  | with_reducible refine sd_par ?_
  | with_reducible refine sd_par3 ?_
  | with_reducible refine rd_addI ?_
  | with_reducible refine rd_subI ?_
  | with_reducible refine rd_ltI ?_
  | with_reducible refine rd_leI ?_
  | with_reducible refine rd_gtI ?_
  | with_reducible refine rd_geI ?_
  | with_reducible refine rd_isNo ?_
  | with_reducible refine rd_notNo ?_
  | with_reducible refine cd_lenL ?_
  | with_reducible refine cd_lenT ?_
  | with_reducible refine cd_abs ?_
  | with_reducible refine cd_intI ?_
  | with_reducible refine cd_intB ?_
  | with_reducible refine cd_strS ?_
  | with_reducible refine cd_listT ?_
  | with_reducible refine cd_tupleL ?_
  | with_reducible refine sd_L ?_
  | with_reducible refine sd_T ?_
  | with_reducible refine gd_name ?_
  | ((with_reducible refine' ed_lcL1y ?hv ?_); (case hv => exact rfl))
  | ((with_reducible refine' ed_lcT1y ?hv ?_); (case hv => exact rfl))
  | ((with_reducible refine' ed_lcL1 ?hv ?_); (case hv => exact rfl))
  | ((with_reducible refine' ed_lcT1 ?hv ?_); (case hv => exact rfl))
  | with_reducible refine exB ?_
  | with_reducible refine exI ?_
  | with_reducible refine exS ?_
  | with_reducible refine exL ?_
  | with_reducible refine exT ?_
  | with_reducible refine exLs ?_
  | with_reducible refine exIs ?_
  | with_reducible refine ex2 ?_
  | with_reducible refine ex3 ?_
  | with_reducible refine ln0 ?_
  | with_reducible refine ln1 ?_
  | with_reducible refine ln2 ?_
  | with_reducible refine ln3 ?_
  | with_reducible refine ln4 ?_
  | with_reducible refine ln5 ?_
  | with_reducible refine ln6 ?_
  | with_reducible refine ln7 ?_
  | with_reducible refine ln8 ?_
  | with_reducible refine ln9 ?_
  | with_reducible refine ln10 ?_
  | with_reducible refine ln11 ?_
  | with_reducible refine ln12 ?_
  | with_reducible refine cTT ?_
  | with_reducible refine cFT ?_
  | with_reducible refine cTF ?_
  | with_reducible refine cFF ?_
  | with_reducible refine nTT ?_
  | with_reducible refine nFT ?_
  | with_reducible refine nTF ?_
  | with_reducible refine nFF ?_
  | refine rd_ixT0 ?_
  | refine rd_ixL0 ?_
  | refine rd_ixT rfl ?_
  | refine rd_ixL rfl ?_)
local macro_rules | `(tactic| walk_at "dl") => `(tactic| repeat (walk_at "dl1"))
local macro_rules | `(tactic| walk_at "call1") => `(tactic| ((refine ⟨_, rfl, ?hcd, fun r hr => ?hcr⟩); (case hcd => first | assumption | rfl); (case hcr => (subst hr; try walk_at "dl"))))
local macro_rules | `(tactic| walk_at "and") => `(tactic| (refine ed_andE ?_; try walk_at "dl"))
local macro_rules | `(tactic| walk_at "k") => `(tactic| ((first | refine ct rfl ?_ | refine cf rfl ?_ | refine ct' rfl ?_ | refine cf' rfl ?_); try walk_at "dl"))
theorem wG_name (n : Nat) (s : PySem.Str) : wordG n s "name" = nameD (intOf s) := by
  rw [nameD_intOf]
  exact if_pos rfl
theorem wG_tape {n : Nat} (hn : n ≤ 2) (s : PySem.Str) : wordG n s "tape" = fromD 0 ((n : Int) - 1) (intOf s) := by
  have h := fromD_intOf (lo := 0) (hi := n) (by omega) s
  refine Eq.trans ?_ h.symm
  unfold wordG
  rw [if_neg (by decide +kernel), if_pos rfl]
theorem wG_mark (n : Nat) (s : PySem.Str) : wordG n s "mark" = fromD 3 20 (intOf s) := by
  have h := fromD_intOf (lo := 3) (hi := 21) (by omega) s
  refine Eq.trans ?_ h.symm
  unfold wordG
  rw [if_neg (by decide +kernel), if_neg (by decide +kernel), if_pos rfl]
theorem wG_many (n : Nat) (s : PySem.Str) : wordG n s "many" = fromD 1 20 (intOf s) := by
  have h := fromD_intOf (lo := 1) (hi := 21) (by omega) s
  refine Eq.trans ?_ h.symm
  unfold wordG
  rw [if_neg (by decide +kernel), if_neg (by decide +kernel), if_neg (by decide +kernel)]
def lineR (n : Nat) (w : PySem.Str) (S rest : List PySem.Str) : Bool := decide (S.length ≠ 0 ∧ S.length = rest.length) && ((rest.zip S).all (fun q => wordG n q.1 q.2) && lineEnd w rest)
theorem lineR_no {n : Nat} {w : PySem.Str} {S rest : List PySem.Str} (h : ¬ S.length = rest.length) : lineR n w S rest = false := by
  unfold lineR
  rw [decide_eq_false (fun z => h z.2), Bool.false_and]
theorem lineR_2 {n : Nat} {w s1 s2 : PySem.Str} {f g : PyData → Bool} (hw : ¬ w = "split") (h1 : ∀ s, wordG n s s1 = f (intOf s)) (h2 : ∀ s, wordG n s s2 = g (intOf s)) (rest : List PySem.Str) : lineR n w [s1, s2] rest = p2 (fun a b => f a && g b) (rest.map intOf) := by
  rcases rest with _ | ⟨a, _ | ⟨b, _ | ⟨c, t⟩⟩⟩
  · rfl
  · rfl
  · show (_ && ((wordG n a s1 && (wordG n b s2 && true)) && (decide (¬ w = "split") || decide (¬ a = b)))) = (f (intOf a) && g (intOf b))
    rw [h1, h2, decide_eq_true hw, Bool.true_or, Bool.and_true, Bool.and_true]
    rfl
  · exact lineR_no (by simp)
theorem lineR_3 {n : Nat} {w s1 s2 s3 : PySem.Str} {f g k : PyData → Bool} (hw : ¬ w = "split") (h1 : ∀ s, wordG n s s1 = f (intOf s)) (h2 : ∀ s, wordG n s s2 = g (intOf s)) (h3 : ∀ s, wordG n s s3 = k (intOf s)) (rest : List PySem.Str) : lineR n w [s1, s2, s3] rest = p3 (fun a b c => f a && (g b && k c)) (rest.map intOf) := by
  rcases rest with _ | ⟨a, _ | ⟨b, _ | ⟨c, _ | ⟨d, t⟩⟩⟩⟩
  · rfl
  · rfl
  · exact lineR_no (by simp)
  · show (_ && ((wordG n a s1 && (wordG n b s2 && (wordG n c s3 && true))) && (decide (¬ w = "split") || decide (¬ a = b)))) = (f (intOf a) && (g (intOf b) && k (intOf c)))
    rw [h1, h2, h3, decide_eq_true hw, Bool.true_or, Bool.and_true, Bool.and_true]
    rfl
  · exact lineR_no (by simp)
theorem lineR_5 {n : Nat} (hn : n ≤ 2) (rest : List PySem.Str) : lineR n "split" ["name", "name", "name", "tape", "mark"] rest = p5 (fun a b c d e => (nameD a && (nameD b && nameD c)) && (!PyData.eqv a b && (fromD 0 ((n : Int) - 1) d && fromD 3 20 e))) (rest.map intOf) := by
  rcases rest with _ | ⟨a, _ | ⟨b, _ | ⟨c, _ | ⟨d, _ | ⟨e, _ | ⟨f, t⟩⟩⟩⟩⟩⟩
  · rfl
  · rfl
  · exact lineR_no (by simp)
  · exact lineR_no (by simp)
  · exact lineR_no (by simp)
  · show (_ && ((wordG n a "name" && (wordG n b "name" && (wordG n c "name" && (wordG n d "tape" && (wordG n e "mark" && true))))) && (decide (¬ ("split" : PySem.Str) = "split") || decide (¬ a = b)))) = ((nameD (intOf a) && (nameD (intOf b) && nameD (intOf c))) && (!PyData.eqv (intOf a) (intOf b) && (fromD 0 ((n : Int) - 1) (intOf d) && fromD 3 20 (intOf e))))
    rw [wG_name, wG_name, wG_name, wG_tape hn, wG_mark, decide_eq_false (by simp : ¬ ¬ (PySem.Str.ofString "split" = PySem.Str.ofString "split"))]
    have e0 : decide (([("name" : PySem.Str), "name", "name", "tape", "mark"] : List PySem.Str).length ≠ 0 ∧ ([("name" : PySem.Str), "name", "name", "tape", "mark"] : List PySem.Str).length = [a, b, c, d, e].length) = true := rfl
    rw [e0]
    cases ha : nameD (intOf a) with
    | false => simp
    | true =>
      cases hb : nameD (intOf b) with
      | false => simp
      | true =>
        have e1 : intOf a = .str a := by
          cases h : intOf a with
          | str u => rw [intOf_str h]
          | _ => rw [h] at ha; cases ha
        have e2 : intOf b = .str b := by
          cases h : intOf b with
          | str u => rw [intOf_str h]
          | _ => rw [h] at hb; cases hb
        have e3 : PyData.eqv (intOf a) (intOf b) = decide (a = b) := by rw [e1, e2, eqv_str]
        rw [e3, decide_not]
        cases nameD (intOf c) <;> cases fromD 0 ((n : Int) - 1) (intOf d) <;> cases fromD 3 20 (intOf e) <;> cases decide (a = b) <;> rfl
  · exact lineR_no (by simp)
theorem lineR_pl {n : Nat} (hn : n ≤ 2) (w : PySem.Str) (rest : List PySem.Str) : lineR n w (sortsL w) rest = plainD n w (rest.map intOf) := by
  by_cases h1 : w = "split"
  · subst h1
    rw [pd_split]
    exact lineR_5 hn rest
  by_cases h2 : w = "again"
  · subst h2
    rw [pd_ra _ _ (by decide +kernel)]
    exact lineR_2 h1 (wG_name n) (wG_tape hn) rest
  by_cases h3 : w = "read"
  · subst h3
    rw [pd_ra _ _ (by decide +kernel)]
    exact lineR_2 h1 (wG_name n) (wG_tape hn) rest
  by_cases h4 : w = "hold"
  · subst h4
    rw [pd_hh _ _ (by decide +kernel)]
    exact lineR_2 h1 (wG_name n) (wG_name n) rest
  by_cases h5 : w = "half"
  · subst h5
    rw [pd_hh _ _ (by decide +kernel)]
    exact lineR_2 h1 (wG_name n) (wG_name n) rest
  by_cases h6 : w = "inner"
  · subst h6
    rw [pd_oi _ _ (by decide +kernel)]
    exact lineR_3 h1 (wG_name n) (wG_name n) (wG_many n) rest
  by_cases h7 : w = "join"
  · subst h7
    rw [pd_join]
    exact lineR_3 h1 (wG_name n) (wG_name n) (wG_name n) rest
  by_cases h8 : w = "outer"
  · subst h8
    rw [pd_oi _ _ (by decide +kernel)]
    exact lineR_3 h1 (wG_name n) (wG_name n) (wG_many n) rest
  by_cases h9 : w = "cut"
  · subst h9
    rw [pd_cut]
    exact lineR_3 h1 (wG_name n) (wG_tape hn) (wG_mark n) rest
  have e : sortsL w = [] := by
    unfold sortsL
    rw [if_neg h1, if_neg h2, if_neg h3, if_neg h4, if_neg h5, if_neg h6, if_neg h7, if_neg h8, if_neg h9]
  have e2 : plainD n w (rest.map intOf) = false := by
    unfold plainD
    rw [if_neg h9, if_neg (by simp [h8, h6]), if_neg h7, if_neg (by simp [h5, h4]), if_neg (by simp [h3, h2]), if_neg h1]
  rw [e, e2]
  rfl
/-- the two judges of a line agree -/
theorem lineW2_eq {n : Nat} (hn : n ≤ 2) : ∀ ws : List PySem.Str, lineW2 n ws = (stepW n ws).isSome
  | [] => rfl
  | w :: ws => by
    by_cases hw : w = "if"
    · have e1 : lineW2 n (w :: ws) = lineIf n ws := if_pos hw
      rw [e1]
      rcases ws with _ | ⟨a, _ | ⟨b, _ | ⟨c, _ | ⟨d, t⟩⟩⟩⟩ <;> simp only [stepW, if_pos hw]
      · rfl
      · rfl
      · rfl
      · show (decide (c ∈ SEENS) && (wordG n a "name" && wordG n b "name")) = _
        rw [show wordG n a "name" = decide (a ∈ NMS) from if_pos rfl, show wordG n b "name" = decide (b ∈ NMS) from if_pos rfl]
        by_cases h : a ∈ NMS ∧ b ∈ NMS ∧ c ∈ SEENS
        · rw [if_pos h, decide_eq_true h.1, decide_eq_true h.2.1, decide_eq_true h.2.2]
          rfl
        · rw [if_neg h]
          show _ = false
          rw [← Bool.decide_and, ← Bool.decide_and]
          exact decide_eq_false fun z => h ⟨z.2.1, z.2.2, z.1⟩
      · rfl
    · have e1 : lineW2 n (w :: ws) = lineR n w (sortsL w) ws := if_neg hw
      have e2 : stepW n (w :: ws) = (match intOf w with
        | .str u => if step0 n (.str u :: ws.map intOf) = true then some (Row.pl (u, ws.map intOf)) else none
        | _ => none) := if_neg hw
      rw [e1, lineR_pl hn]
      cases hi : intOf w with
      | str u =>
        have hu := intOf_str hi
        subst hu
        have e3 : step0 n (.str u :: ws.map intOf) = plainD n u (ws.map intOf) := if_neg hw
        have e4 : stepW n (u :: ws) = if plainD n u (ws.map intOf) = true then some (Row.pl (u, ws.map intOf)) else none := by
          refine e2.trans ?_
          rw [hi]
          show (if step0 n (.str u :: ws.map intOf) = true then _ else _) = _
          rw [e3]
        rw [e4]
        cases plainD n u (ws.map intOf) <;> rfl
      | int k =>
        obtain ⟨m, rfl, h20, e⟩ := intOf_num hi
        have e4 : stepW n (w :: ws) = none := by
          refine e2.trans ?_
          rw [hi]
        rw [e4]
        show _ = false
        have hk : ¬ w ∈ KINDS := fun hk => by
          have := kw_str w hk
          rw [this] at hi
          cases hi
        unfold plainD
        have : ∀ x ∈ KINDS, ¬ w = x := fun x hx z => hk (z ▸ hx)
        rw [if_neg (this _ (by decide +kernel)), if_neg (fun z => by simp only [List.mem_cons, List.not_mem_nil, or_false] at z; rcases z with z | z <;> exact this _ (by decide +kernel) z), if_neg (this _ (by decide +kernel)), if_neg (fun z => by simp only [List.mem_cons, List.not_mem_nil, or_false] at z; rcases z with z | z <;> exact this _ (by decide +kernel) z), if_neg (fun z => by simp only [List.mem_cons, List.not_mem_nil, or_false] at z; rcases z with z | z <;> exact this _ (by decide +kernel) z), if_neg (this _ (by decide +kernel))]
      | _ => rcases intOf_flat w with z | z <;> (rw [hi] at z; cases z)
theorem lineG_eq {n : Nat} (hn : n ≤ 2) (l : PySem.Str) : lineG n l = (rowOf n l).isSome := by
  unfold lineG rowOf
  by_cases h1 : l = "else"
  · rw [if_pos h1, decide_eq_true (by rw [h1]; decide +kernel)]
    rfl
  · by_cases h2 : l = "end"
    · rw [if_neg h1, if_pos h2, decide_eq_true (by rw [h2]; decide +kernel)]
      rfl
    · rw [if_neg h1, if_neg h2, decide_eq_false (by simp [h1, h2]), Bool.false_or]
      exact lineW2_eq hn _
end CL
set_option Elab.async false
set_option linter.all false
set_option maxRecDepth 100000
set_option maxHeartbeats 2000000
namespace CL
open PySem L2 DL
local macro_rules | `(tactic| walk_at "dl1") => `(tactic| first
  | ((with_reducible refine' ed_var ?hv ?_); (case hv => exact rfl))
  | with_reducible refine ed_int ?_
  | with_reducible refine ed_str ?_
  | with_reducible refine ed_bl ?_
  | with_reducible refine ed_non ?_
  | ((with_reducible refine' ed_jar0 ?hj ?_); (case hj => exact rfl); intro x hx)
  | ((with_reducible refine' ed_jar1 ?hj ?_); (case hj => exact rfl); intro x hx hx2)
  | ((with_reducible refine' ed_callJ ?hj ?_); (case hj => exact rfl))
  | ((with_reducible refine' sd_lapp ?hi ?_); (case hi => exact Nat.le_of_ble_eq_true rfl))
  | ((with_reducible refine' sd_jset0 ?hj ?_); (case hj => exact rfl))
  | ((with_reducible refine' sd_jset1 ?hj ?_); (case hj => exact rfl))
  | with_reducible refine ed_op ?_
  | with_reducible refine ea_cons ?_
  | with_reducible refine ea_nil ?_
  | with_reducible refine ed_isi ?_
  | with_reducible refine ed_cb ?_
  | with_reducible refine ed_zip ?_
  | with_reducible refine ed_sset ?_
  | with_reducible refine ed_rg1 ?_
  | with_reducible refine ed_rg2 ?_
  | with_reducible refine ed_call ?_
  | with_reducible refine ed_tup ?_
  | with_reducible refine ed_lst ?_
  | with_reducible refine ed_andV ?_
  | with_reducible refine ed_orV ?_
  | with_reducible refine ed_notV ?_
  | with_reducible refine ed_chain ?_
  | with_reducible refine ed_if ?_
  | with_reducible refine ed_un ?_
  | with_reducible refine ed_sl ?_
  | with_reducible refine ed_revL ?_
  | with_reducible refine ed_m1 ?_
  | with_reducible refine eo_no ?_
  | with_reducible refine eo_some ?_
  | with_reducible refine et_test ?_
  | with_reducible refine et_B ?_
  | with_reducible refine et_and ?_
  | with_reducible refine et_or ?_
  | with_reducible refine et_not ?_
  | with_reducible refine et_yes ?_
  | with_reducible refine sb_start (Nat.le_of_ble_eq_true rfl) (fun M' => ?_)
  | with_reducible refine sd_seq ?_
  | with_reducible refine ep_cons ?_
  | with_reducible refine ep_nil ?_
  | with_reducible refine sd_next ?_
  | with_reducible refine sd_set ?_
  | with_reducible refine sd_ret ?_
  | with_reducible refine sd_drop ?_
  | with_reducible refine sd_if ?_
  | with_reducible refine sd_par ?_
  | with_reducible refine sd_par3 ?_
  | with_reducible refine rd_addI ?_
  | with_reducible refine rd_subI ?_
  | with_reducible refine rd_ltI ?_
  | with_reducible refine rd_leI ?_
  | with_reducible refine rd_gtI ?_
  | with_reducible refine rd_geI ?_
  | with_reducible refine rd_isNo ?_
  | with_reducible refine rd_notNo ?_
  | with_reducible refine cd_lenL ?_
  | with_reducible refine cd_lenT ?_
  | with_reducible refine cd_abs ?_
  | with_reducible refine cd_intI ?_
  | with_reducible refine cd_intB ?_
  | with_reducible refine cd_strS ?_
  | with_reducible refine cd_listT ?_
  | with_reducible refine cd_tupleL ?_
  | with_reducible refine sd_L ?_
  | with_reducible refine sd_T ?_
  | with_reducible refine gd_name ?_
  | ((with_reducible refine' ed_lcL1y ?hv ?_); (case hv => exact rfl))
  | ((with_reducible refine' ed_lcT1y ?hv ?_); (case hv => exact rfl))
  | ((with_reducible refine' ed_lcL1 ?hv ?_); (case hv => exact rfl))
  | ((with_reducible refine' ed_lcT1 ?hv ?_); (case hv => exact rfl))
  | with_reducible refine exB ?_
  | with_reducible refine exI ?_
  | with_reducible refine exS ?_
  | with_reducible refine exL ?_
  | with_reducible refine exT ?_
  | with_reducible refine exLs ?_
  | with_reducible refine exIs ?_
  | with_reducible refine ex2 ?_
  | with_reducible refine ex3 ?_
  | with_reducible refine ln0 ?_
  | with_reducible refine ln1 ?_
  | with_reducible refine ln2 ?_
  | with_reducible refine ln3 ?_
  | with_reducible refine ln4 ?_
  | with_reducible refine ln5 ?_
  | with_reducible refine ln6 ?_
  | with_reducible refine ln7 ?_
  | with_reducible refine ln8 ?_
  | with_reducible refine ln9 ?_
  | with_reducible refine ln10 ?_
  | with_reducible refine ln11 ?_
  | with_reducible refine ln12 ?_
  | with_reducible refine cTT ?_
  | with_reducible refine cFT ?_
  | with_reducible refine cTF ?_
  | with_reducible refine cFF ?_
  | with_reducible refine nTT ?_
  | with_reducible refine nFT ?_
  | with_reducible refine nTF ?_
  | with_reducible refine nFF ?_
  | refine rd_ixT0 ?_
  | refine rd_ixL0 ?_
  | refine rd_ixT rfl ?_
  | refine rd_ixL rfl ?_)
local macro_rules | `(tactic| walk_at "dl") => `(tactic| repeat (walk_at "dl1"))
local macro_rules | `(tactic| walk_at "call1") => `(tactic| ((refine ⟨_, rfl, ?hcd, fun r hr => ?hcr⟩); (case hcd => first | assumption | rfl); (case hcr => (subst hr; try walk_at "dl"))))
local macro_rules | `(tactic| walk_at "and") => `(tactic| (refine ed_andE ?_; try walk_at "dl"))
local macro_rules | `(tactic| walk_at "k") => `(tactic| ((first | refine ct rfl ?_ | refine cf rfl ?_ | refine ct' rfl ?_ | refine cf' rfl ?_); try walk_at "dl"))
/-! ### the two judges of a whole text -/
def kindOf (s : PT) : PySem.Str := match s.head, s.first with
  | none, _ => "top"
  | some _, none => "if"
  | some _, some _ => "else"
def wds (s : PT) : List PySem.Str := allW s.found ++ (match s.head with
  | none => []
  | some _ => ("if" : PySem.Str) :: ((s.first.getD []).map (·.1) ++ s.body.map (·.1)))
structure RelW (s : PT) (g : WG) : Prop where
  hf : s.head = none → s.first = none
  kind : g.kind = kindOf s
  top : g.top = s.found.length + (if s.head.isSome then 1 else 0)
  body : s.head.isSome = true → g.body = s.body.length
  b3 : s.head.isSome = true → s.body.length ≤ 3
  f3 : ∀ f, s.first = some f → f.length ≤ 3
  ok : s.found.all Stp.ok = true
  steps : g.steps = (wds s).length
  reads : g.reads = (wds s).count ("read" : PySem.Str)
structure BadW (s : PT) : Prop where
  hf : s.head = none → s.first = none
  bad : s.found.all Stp.ok = false ∨ (∃ f, s.first = some f ∧ 3 < f.length) ∨ (s.head.isSome = true ∧ 3 < s.body.length)
theorem allW_app (a b : List Stp) : allW (a ++ b) = allW a ++ allW b := List.flatMap_append ..
theorem bad_step {s t : PT} {r : Row} (h : BadW s) (e : ptStep s r = some t) : BadW t := by
  obtain ⟨found, head, first, body⟩ := s
  obtain ⟨hf, bad⟩ := h
  dsimp only at hf bad
  cases r with
  | els =>
    cases head with
    | none => cases first <;> cases e
    | some hd =>
      cases first with
      | some f => cases e
      | none =>
        cases e
        refine ⟨fun z => (by cases z), ?_⟩
        rcases bad with b | ⟨f, b, _⟩ | ⟨_, b⟩
        · exact .inl b
        · cases b
        · exact .inr (.inl ⟨_, rfl, b⟩)
  | en =>
    cases first with
    | none => cases head <;> cases e
    | some f =>
      cases head with
      | none => cases e
      | some hd =>
        obtain ⟨a, b, w⟩ := hd
        cases e
        refine ⟨fun _ => rfl, .inl ?_⟩
        show (found ++ [Stp.iff a b w f body]).all Stp.ok = false
        rw [List.all_append]
        rcases bad with b | ⟨f', b, h3⟩ | ⟨_, h3⟩
        · rw [b]; rfl
        · cases b
          have : Stp.ok (.iff a b w f body) = false := by
            show (decide _ && _) = false
            rw [decide_eq_false (by omega), Bool.false_and]
          simp [this]
        · have : Stp.ok (.iff a b w f body) = false := by
            show (decide ((f.length : Int) ≤ 3) && decide ((body.length : Int) ≤ 3)) = false
            rw [decide_eq_false (by omega : ¬ ((body.length : Int) ≤ 3)), Bool.and_false]
          simp [this]
  | hd a b w =>
    cases head with
    | some hd => cases e
    | none =>
      cases e
      have hf := hf rfl
      subst hf
      refine ⟨fun z => (by cases z), ?_⟩
      rcases bad with b | ⟨f', b, h3⟩ | ⟨b, h3⟩
      · exact .inl b
      · cases b
      · cases b
  | pl p =>
    cases head with
    | some hd =>
      cases e
      refine ⟨fun z => (by cases z), ?_⟩
      rcases bad with b | ⟨f', b, h3⟩ | ⟨b, h3⟩
      · exact .inl b
      · exact .inr (.inl ⟨f', b, h3⟩)
      · refine .inr (.inr ⟨rfl, ?_⟩)
        show 3 < (body ++ [p]).length
        rw [List.length_append]
        omega
    | none =>
      cases e
      refine ⟨hf, ?_⟩
      rcases bad with b | ⟨f', b, h3⟩ | ⟨b, h3⟩
      · left
        show (found ++ [Stp.pl p]).all Stp.ok = false
        rw [List.all_append, b]
        rfl
      · exact .inr (.inl ⟨f', b, h3⟩)
      · cases b
theorem bad_run : ∀ (rows : List Row) {s t : PT}, BadW s → ptRun s rows = some t → BadW t
  | [], s, t, h, e => by cases e; exact h
  | r :: rs, s, t, h, e => by
    cases hs : ptStep s r with
    | none =>
      have : ptRun s (r :: rs) = none := by simp [ptRun, hs]
      rw [this] at e
      cases e
    | some u =>
      have : ptRun s (r :: rs) = ptRun u rs := by simp [ptRun, hs]
      rw [this] at e
      exact bad_run rs (bad_step h hs) e
theorem wgE (g : WG) : wgStep g "else" = if g.kind = "if" then some { g with kind := "else", body := 0 } else none := if_pos rfl
theorem wgN (g : WG) : wgStep g "end" = if g.kind = "else" then some { g with kind := "top" } else none := by
  unfold wgStep
  rw [if_neg (by decide +kernel), if_pos rfl]
theorem wgI (g : WG) : wgStep g "if" = if g.kind = "top" then some { g with steps := g.steps + 1, reads := g.reads, top := g.top + 1, kind := "if", body := 0 } else none := by
  unfold wgStep
  rw [if_neg (by decide +kernel), if_neg (by decide +kernel)]
  by_cases h : g.kind = "top"
  · rw [if_pos h, if_pos h, if_pos rfl, if_neg (by decide +kernel)]
    rfl
  · rw [if_neg h, if_neg h, if_pos (.inr rfl)]
theorem wgP (g : WG) {w : PySem.Str} (h1 : ¬ w = "else") (h2 : ¬ w = "end") (h3 : ¬ w = "if") : wgStep g w = if g.kind = "top" then some { g with steps := g.steps + 1, reads := g.reads + (if w = "read" then 1 else 0), top := g.top + 1 } else if 3 < g.body + 1 then none else some { g with steps := g.steps + 1, reads := g.reads + (if w = "read" then 1 else 0), body := g.body + 1 } := by
  unfold wgStep
  rw [if_neg h1, if_neg h2]
  by_cases h : g.kind = "top"
  · rw [if_pos h, if_pos h, if_neg h3]
  · rw [if_neg h, if_neg h]
    by_cases hb : 3 < g.body + 1
    · rw [if_pos (.inl hb), if_pos hb]
    · rw [if_neg (fun z => z.elim hb h3), if_neg hb]
def simOk (o : Option WG) (p : Option PT) : Prop := match o with
  | some g => ∃ s, p = some s ∧ RelW s g
  | none => p = none ∨ ∃ s, p = some s ∧ BadW s
theorem cnt_one (w : PySem.Str) : [w].count ("read" : PySem.Str) = if w = "read" then 1 else 0 := by
  rw [List.count_singleton]
  by_cases h : w = "read" <;> simp [h]
theorem sim_step {s : PT} {g : WG} {r : Row} (h : RelW s g) (hr : ∀ p, r = .pl p → ¬ p.1 = "else" ∧ ¬ p.1 = "end" ∧ ¬ p.1 = "if") : simOk (wgStep g r.wd) (ptStep s r) := by
  obtain ⟨found, head, first, body⟩ := s
  obtain ⟨hf, kind, top, hbody, b3, f3, ok, steps, reads⟩ := h
  cases r with
  | els =>
    show simOk (wgStep g "else") _
    rw [wgE, kind]
    cases head with
    | none =>
      rw [if_neg (by show ¬ ("top" : PySem.Str) = "if"; decide +kernel)]
      left; cases first <;> rfl
    | some hd =>
      cases first with
      | some f =>
        rw [if_neg (by show ¬ ("else" : PySem.Str) = "if"; decide +kernel)]
        left; rfl
      | none =>
        rw [if_pos (by show ("if" : PySem.Str) = "if"; rfl)]
        refine ⟨_, rfl, ⟨fun z => (by cases z), rfl, top, fun _ => rfl, fun _ => Nat.zero_le _, fun f z => (by cases z; exact b3 rfl), ok, ?_, ?_⟩⟩
        · rw [steps]; simp [wds]
        · rw [reads]; simp [wds]
  | en =>
    show simOk (wgStep g "end") _
    rw [wgN, kind]
    cases head with
    | none =>
      rw [if_neg (by show ¬ ("top" : PySem.Str) = "else"; decide +kernel)]
      left; cases first <;> rfl
    | some hd =>
      cases first with
      | none =>
        rw [if_neg (by show ¬ ("if" : PySem.Str) = "else"; decide +kernel)]
        left; rfl
      | some f =>
        rw [if_pos (by show ("else" : PySem.Str) = "else"; rfl)]
        obtain ⟨a, b, w⟩ := hd
        refine ⟨_, rfl, ⟨fun _ => rfl, rfl, ?_, fun z => (by cases z), fun z => (by cases z), fun f z => (by cases z), ?_, ?_, ?_⟩⟩
        · rw [top]; simp
        · have h1 := f3 f rfl
          have h2 := b3 rfl
          show (found ++ [Stp.iff a b w f body]).all Stp.ok = true
          have : Stp.ok (.iff a b w f body) = true := by
            show (decide ((f.length : Int) ≤ 3) && decide ((body.length : Int) ≤ 3)) = true
            rw [decide_eq_true (by have h2 : body.length ≤ 3 := h2; omega : (body.length : Int) ≤ 3), decide_eq_true (by omega : (f.length : Int) ≤ 3)]
            rfl
          rw [List.all_append, show found.all Stp.ok = true from ok]
          simp [this]
        · rw [steps]
          simp [wds, allW, Stp.hd, Stp.subs]
        · rw [reads]
          simp [wds, allW, Stp.hd, Stp.subs]
  | hd a b w =>
    show simOk (wgStep g "if") _
    rw [wgI, kind]
    cases head with
    | some hd =>
      cases first with
      | none =>
        rw [if_neg (by show ¬ ("if" : PySem.Str) = "top"; decide +kernel)]
        left; rfl
      | some f =>
        rw [if_neg (by show ¬ ("else" : PySem.Str) = "top"; decide +kernel)]
        left; rfl
    | none =>
      have hf : first = none := hf rfl
      subst hf
      rw [if_pos (by show ("top" : PySem.Str) = "top"; rfl)]
      refine ⟨_, rfl, ⟨fun z => (by cases z), rfl, ?_, fun _ => rfl, fun _ => Nat.zero_le _, fun f z => (by cases z), ok, ?_, ?_⟩⟩
      · rw [top]; simp
      · rw [steps]; simp [wds]
      · rw [reads]
        show List.count _ (allW found ++ []) = List.count _ (allW found ++ [("if" : PySem.Str)])
        rw [List.append_nil, List.count_append, cnt_one, if_neg (by decide +kernel)]
        rfl
  | pl p =>
    obtain ⟨h1, h2, h3⟩ := hr p rfl
    show simOk (wgStep g p.1) _
    rw [wgP g h1 h2 h3, kind]
    cases head with
    | none =>
      have hf : first = none := hf rfl
      subst hf
      rw [if_pos (by show ("top" : PySem.Str) = "top"; rfl)]
      refine ⟨_, rfl, ⟨fun _ => rfl, rfl, ?_, fun z => (by cases z), fun z => (by cases z), fun f z => (by cases z), ?_, ?_, ?_⟩⟩
      · rw [top]; simp
      · show (found ++ [Stp.pl p]).all Stp.ok = true
        rw [List.all_append, show found.all Stp.ok = true from ok]
        rfl
      · rw [steps]; simp [wds, allW, Stp.hd, Stp.subs]
      · rw [reads]
        show List.count _ (allW found ++ []) + _ = List.count _ (allW (found ++ [Stp.pl p]) ++ [])
        rw [List.append_nil, List.append_nil, allW_app, List.count_append]
        show _ = _ + List.count _ [p.1]
        rw [cnt_one]
    | some hd =>
      have hk : ¬ kindOf ⟨found, some hd, first, body⟩ = "top" := by
        cases first
        · exact (by decide +kernel : ¬ ("if" : PySem.Str) = "top")
        · exact (by decide +kernel : ¬ ("else" : PySem.Str) = "top")
      rw [if_neg hk]
      have hb : g.body = body.length := hbody rfl
      rw [hb]
      split
      · rename_i h4
        right
        refine ⟨_, rfl, ⟨fun z => (by cases z), .inr (.inr ⟨rfl, ?_⟩)⟩⟩
        show 3 < (body ++ [p]).length
        rw [List.length_append]
        exact h4
      · rename_i h4
        refine ⟨_, rfl, ⟨fun z => (by cases z), rfl, top, fun _ => ?_, fun _ => ?_, f3, ok, ?_, ?_⟩⟩
        · show body.length + 1 = (body ++ [p]).length
          rw [List.length_append]
          rfl
        · show (body ++ [p]).length ≤ 3
          rw [List.length_append]
          show body.length + 1 ≤ 3
          omega
        · show g.steps + 1 = _
          rw [steps]; simp [wds]; omega
        · show g.reads + _ = _
          rw [reads, ← cnt_one]
          simp [wds, List.count_append, List.count_cons]
          try omega
end CL
set_option Elab.async false
set_option linter.all false
set_option maxRecDepth 100000
set_option maxHeartbeats 2000000
namespace CL
open PySem L2 DL
local macro_rules | `(tactic| walk_at "dl1") => `(tactic| first
  | ((with_reducible refine' ed_var ?hv ?_); (case hv => exact rfl))
  | with_reducible refine ed_int ?_
  | with_reducible refine ed_str ?_
  | with_reducible refine ed_bl ?_
  | with_reducible refine ed_non ?_
  | ((with_reducible refine' ed_jar0 ?hj ?_); (case hj => exact rfl); intro x hx)
  | ((with_reducible refine' ed_jar1 ?hj ?_); (case hj => exact rfl); intro x hx hx2)
  | ((with_reducible refine' ed_callJ ?hj ?_); (case hj => exact rfl))
  | ((with_reducible refine' sd_lapp ?hi ?_); (case hi => exact Nat.le_of_ble_eq_true rfl))
  | ((with_reducible refine' sd_jset0 ?hj ?_); (case hj => exact rfl))
  | ((with_reducible refine' sd_jset1 ?hj ?_); (case hj => exact rfl))
  | with_reducible refine ed_op ?_
  | with_reducible refine ea_cons ?_
  | with_reducible refine ea_nil ?_
  | with_reducible refine ed_isi ?_
  | with_reducible refine ed_cb ?_
  | with_reducible refine ed_zip ?_
  | with_reducible refine ed_sset ?_
  | with_reducible refine ed_rg1 ?_
  | with_reducible refine ed_rg2 ?_
  | with_reducible refine ed_call ?_
  | with_reducible refine ed_tup ?_
  | with_reducible refine ed_lst ?_
  | with_reducible refine ed_andV ?_
  | with_reducible refine ed_orV ?_
  | with_reducible refine ed_notV ?_
  | with_reducible refine ed_chain ?_
  | with_reducible refine ed_if ?_
  | with_reducible refine ed_un ?_
  | with_reducible refine ed_sl ?_
  | with_reducible refine ed_revL ?_
  | with_reducible refine ed_m1 ?_
  | with_reducible refine eo_no ?_
  | with_reducible refine eo_some ?_
  | with_reducible refine et_test ?_
  | with_reducible refine et_B ?_
  | with_reducible refine et_and ?_
  | with_reducible refine et_or ?_
  | with_reducible refine et_not ?_
  | with_reducible refine et_yes ?_
  | with_reducible refine sb_start (Nat.le_of_ble_eq_true rfl) (fun M' => ?_)
  | with_reducible refine sd_seq ?_
  | with_reducible refine ep_cons ?_
  | with_reducible refine ep_nil ?_
  | with_reducible refine sd_next ?_
  | with_reducible refine sd_set ?_
  | with_reducible refine sd_ret ?_
  | with_reducible refine sd_drop ?_
  | with_reducible refine sd_if ?_
  | with_reducible refine sd_par ?_
  | with_reducible refine sd_par3 ?_
  | with_reducible refine rd_addI ?_
  | with_reducible refine rd_subI ?_
  | with_reducible refine rd_ltI ?_
  | with_reducible refine rd_leI ?_
  | with_reducible refine rd_gtI ?_
  | with_reducible refine rd_geI ?_
  | with_reducible refine rd_isNo ?_
  | with_reducible refine rd_notNo ?_
  | with_reducible refine cd_lenL ?_
  | with_reducible refine cd_lenT ?_
  | with_reducible refine cd_abs ?_
  | with_reducible refine cd_intI ?_
  | with_reducible refine cd_intB ?_
  | with_reducible refine cd_strS ?_
  | with_reducible refine cd_listT ?_
  | with_reducible refine cd_tupleL ?_
  | with_reducible refine sd_L ?_
  | with_reducible refine sd_T ?_
  | with_reducible refine gd_name ?_
  | ((with_reducible refine' ed_lcL1y ?hv ?_); (case hv => exact rfl))
  | ((with_reducible refine' ed_lcT1y ?hv ?_); (case hv => exact rfl))
  | ((with_reducible refine' ed_lcL1 ?hv ?_); (case hv => exact rfl))
  | ((with_reducible refine' ed_lcT1 ?hv ?_); (case hv => exact rfl))
  | with_reducible refine exB ?_
  | with_reducible refine exI ?_
  | with_reducible refine exS ?_
  | with_reducible refine exL ?_
  | with_reducible refine exT ?_
  | with_reducible refine exLs ?_
  | with_reducible refine exIs ?_
  | with_reducible refine ex2 ?_
  | with_reducible refine ex3 ?_
  | with_reducible refine ln0 ?_
  | with_reducible refine ln1 ?_
  | with_reducible refine ln2 ?_
  | with_reducible refine ln3 ?_
  | with_reducible refine ln4 ?_
  | with_reducible refine ln5 ?_
  | with_reducible refine ln6 ?_
  | with_reducible refine ln7 ?_
  | with_reducible refine ln8 ?_
  | with_reducible refine ln9 ?_
  | with_reducible refine ln10 ?_
  | with_reducible refine ln11 ?_
  | with_reducible refine ln12 ?_
  | with_reducible refine cTT ?_
  | with_reducible refine cFT ?_
  | with_reducible refine cTF ?_
  | with_reducible refine cFF ?_
  | with_reducible refine nTT ?_
  | with_reducible refine nFT ?_
  | with_reducible refine nTF ?_
  | with_reducible refine nFF ?_
  | refine rd_ixT0 ?_
  | refine rd_ixL0 ?_
  | refine rd_ixT rfl ?_
  | refine rd_ixL rfl ?_)
local macro_rules | `(tactic| walk_at "dl") => `(tactic| repeat (walk_at "dl1"))
local macro_rules | `(tactic| walk_at "call1") => `(tactic| ((refine ⟨_, rfl, ?hcd, fun r hr => ?hcr⟩); (case hcd => first | assumption | rfl); (case hcr => (subst hr; try walk_at "dl"))))
local macro_rules | `(tactic| walk_at "and") => `(tactic| (refine ed_andE ?_; try walk_at "dl"))
local macro_rules | `(tactic| walk_at "k") => `(tactic| ((first | refine ct rfl ?_ | refine cf rfl ?_ | refine ct' rfl ?_ | refine cf' rfl ?_); try walk_at "dl"))
theorem kw_of {n : Int} {w : PySem.Str} {r : List PyData} (h : plainD n w r = true) : w ∈ KINDS := by
  unfold plainD at h
  split at h
  · rename_i e; subst e; decide +kernel
  split at h
  · rename_i e; exact (by decide +kernel : ∀ w ∈ (["outer", "inner"] : List PySem.Str), w ∈ KINDS) w e
  split at h
  · rename_i e; subst e; decide +kernel
  split at h
  · rename_i e; exact (by decide +kernel : ∀ w ∈ (["half", "hold"] : List PySem.Str), w ∈ KINDS) w e
  split at h
  · rename_i e; exact (by decide +kernel : ∀ w ∈ (["read", "again"] : List PySem.Str), w ∈ KINDS) w e
  split at h
  · rename_i e; subst e; decide +kernel
  · cases h
theorem sim_run {n : Int} : ∀ (ls : List PySem.Str) {s : PT} {g : WG}, (∀ l ∈ ls, (rowOf n l).isSome = true) → RelW s g → simOk (wgRun g ls) (ptRun s (ls.filterMap (rowOf n)))
  | [], s, g, _, h => ⟨s, rfl, h⟩
  | l :: ls, s, g, hl, h => by
    obtain ⟨r, hr⟩ := Option.isSome_iff_exists.mp (hl l (by simp))
    have e1 : (l :: ls).filterMap (rowOf n) = r :: ls.filterMap (rowOf n) := by rw [List.filterMap_cons, hr]
    rw [e1]
    have hw := (rowOf_line hr).2
    have hg := rowOf_good hr
    have st := sim_step (r := r) h (fun p hp => by
      subst hp
      have hk := kw_of (GoodPl.ok hg)
      exact ⟨fun z => by rw [z] at hk; revert hk; decide +kernel, fun z => by rw [z] at hk; revert hk; decide +kernel, hg.noif⟩)
    have e2 : wgRun g (l :: ls) = match wgStep g r.wd with
      | some t => wgRun t ls
      | none => none := by rw [← hw]; rfl
    rw [e2]
    cases hgs : wgStep g r.wd with
    | some g' =>
      rw [hgs] at st
      obtain ⟨s', hs, hrel⟩ := st
      have e3 : ptRun s (r :: ls.filterMap (rowOf n)) = ptRun s' (ls.filterMap (rowOf n)) := by simp [ptRun, hs]
      rw [e3]
      exact sim_run ls (fun l' h' => hl l' (by simp [h'])) hrel
    | none =>
      rw [hgs] at st
      rcases st with hs | ⟨s', hs, hb⟩
      · left; simp [ptRun, hs]
      · have e3 : ptRun s (r :: ls.filterMap (rowOf n)) = ptRun s' (ls.filterMap (rowOf n)) := by simp [ptRun, hs]
        show ptRun s _ = none ∨ _
        rw [e3]
        cases hrun : ptRun s' (ls.filterMap (rowOf n)) with
        | none => exact .inl rfl
        | some t => exact .inr ⟨t, rfl, bad_run _ hb hrun⟩
theorem whole_eq {n : Int} {ls : List PySem.Str} (hl : ∀ l ∈ ls, (rowOf n l).isSome = true) : wholeG ls = match ptAll (ls.filterMap (rowOf n)) with
    | some ss => scriptOk ss
    | none => false := by
  have h := sim_run (n := n) ls (s := ⟨[], none, none, []⟩) (g := wg0) hl ⟨fun _ => rfl, rfl, rfl, fun z => (by cases z), fun z => (by cases z), fun f z => (by cases z), rfl, rfl, rfl⟩
  unfold wholeG ptAll
  cases hg : wgRun wg0 ls with
  | none =>
    rw [hg] at h
    rcases h with h | ⟨s, h, hb⟩
    · rw [h]
    · rw [h]
      obtain ⟨found, head, first, body⟩ := s
      cases head with
      | some _ => rfl
      | none =>
        obtain ⟨hf, bad⟩ := hb
        show false = scriptOk found
        have : found.all Stp.ok = false := by
          rcases bad with b | ⟨f, b, _⟩ | ⟨b, _⟩
          · exact b
          · rw [hf rfl] at b; cases b
          · cases b
        unfold scriptOk
        rw [this, Bool.and_false, Bool.false_and]
  | some g =>
    rw [hg] at h
    obtain ⟨s, h, hr⟩ := h
    rw [h]
    obtain ⟨found, head, first, body⟩ := s
    obtain ⟨hf, kind, top, hbody, b3, f3, ok, steps, reads⟩ := hr
    cases head with
    | some hd =>
      show wgEnd g = false
      unfold wgEnd
      rw [kind]
      have hk : ¬ kindOf ⟨found, some hd, first, body⟩ = "top" := by
        cases first
        · exact (by decide +kernel : ¬ ("if" : PySem.Str) = "top")
        · exact (by decide +kernel : ¬ ("else" : PySem.Str) = "top")
      rw [decide_eq_false hk, Bool.false_and]
    | none =>
      show wgEnd g = scriptOk found
      unfold wgEnd scriptOk
      have hk : g.kind = "top" := kind
      have e1 : g.top = found.length := top
      have e2 : g.steps = (allW found).length := by
        rw [steps]
        show (allW found ++ []).length = _
        rw [List.append_nil]
      have e3 : g.reads = (allW found).count ("read" : PySem.Str) := by
        rw [reads]
        show (allW found ++ []).count _ = _
        rw [List.append_nil]
      rw [decide_eq_true hk, e1, e2, e3, show found.all Stp.ok = true from ok, Bool.true_and, Bool.and_true]
      congr 1
      · exact decide_eq_decide.mpr (by omega)
      · congr 1 <;> exact decide_eq_decide.mpr (by omega)
end CL
set_option Elab.async false
set_option linter.all false
set_option maxRecDepth 100000
set_option maxHeartbeats 2000000
namespace CL
open PySem L2 DL
local macro_rules | `(tactic| walk_at "dl1") => `(tactic| first
  | ((with_reducible refine' ed_var ?hv ?_); (case hv => exact rfl))
  | with_reducible refine ed_int ?_
  | with_reducible refine ed_str ?_
  | with_reducible refine ed_bl ?_
  | with_reducible refine ed_non ?_
  | ((with_reducible refine' ed_jar0 ?hj ?_); (case hj => exact rfl); intro x hx)
  | ((with_reducible refine' ed_jar1 ?hj ?_); (case hj => exact rfl); intro x hx hx2)
  | ((with_reducible refine' ed_callJ ?hj ?_); (case hj => exact rfl))
  | ((with_reducible refine' sd_lapp ?hi ?_); (case hi => exact Nat.le_of_ble_eq_true rfl))
  | ((with_reducible refine' sd_jset0 ?hj ?_); (case hj => exact rfl))
  | ((with_reducible refine' sd_jset1 ?hj ?_); (case hj => exact rfl))
  | with_reducible refine ed_op ?_
  | with_reducible refine ea_cons ?_
  | with_reducible refine ea_nil ?_
  | with_reducible refine ed_isi ?_
  | with_reducible refine ed_cb ?_
  | with_reducible refine ed_zip ?_
  | with_reducible refine ed_sset ?_
  | with_reducible refine ed_rg1 ?_
  | with_reducible refine ed_rg2 ?_
  | with_reducible refine ed_call ?_
  | with_reducible refine ed_tup ?_
  | with_reducible refine ed_lst ?_
  | with_reducible refine ed_andV ?_
  | with_reducible refine ed_orV ?_
  | with_reducible refine ed_notV ?_
  | with_reducible refine ed_chain ?_
  | with_reducible refine ed_if ?_
  | with_reducible refine ed_un ?_
  | with_reducible refine ed_sl ?_
  | with_reducible refine ed_revL ?_
  | with_reducible refine ed_m1 ?_
  | with_reducible refine eo_no ?_
  | with_reducible refine eo_some ?_
  | with_reducible refine et_test ?_
  | with_reducible refine et_B ?_
  | with_reducible refine et_and ?_
  | with_reducible refine et_or ?_
  | with_reducible refine et_not ?_
  | with_reducible refine et_yes ?_
  | with_reducible refine sb_start (Nat.le_of_ble_eq_true rfl) (fun M' => ?_)
  | with_reducible refine sd_seq ?_
  | with_reducible refine ep_cons ?_
  | with_reducible refine ep_nil ?_
  | with_reducible refine sd_next ?_
  | with_reducible refine sd_set ?_
  | with_reducible refine sd_ret ?_
  | with_reducible refine sd_drop ?_
  | with_reducible refine sd_if ?_
  | with_reducible refine sd_par ?_
  | with_reducible refine sd_par3 ?_
  | with_reducible refine rd_addI ?_
  | with_reducible refine rd_subI ?_
  | with_reducible refine rd_ltI ?_
  | with_reducible refine rd_leI ?_
  | with_reducible refine rd_gtI ?_
  | with_reducible refine rd_geI ?_
  | with_reducible refine rd_isNo ?_
  | with_reducible refine rd_notNo ?_
  | with_reducible refine cd_lenL ?_
  | with_reducible refine cd_lenT ?_
  | with_reducible refine cd_abs ?_
  | with_reducible refine cd_intI ?_
  | with_reducible refine cd_intB ?_
  | with_reducible refine cd_strS ?_
  | with_reducible refine cd_listT ?_
  | with_reducible refine cd_tupleL ?_
  | with_reducible refine sd_L ?_
  | with_reducible refine sd_T ?_
  | with_reducible refine gd_name ?_
  | ((with_reducible refine' ed_lcL1y ?hv ?_); (case hv => exact rfl))
  | ((with_reducible refine' ed_lcT1y ?hv ?_); (case hv => exact rfl))
  | ((with_reducible refine' ed_lcL1 ?hv ?_); (case hv => exact rfl))
  | ((with_reducible refine' ed_lcT1 ?hv ?_); (case hv => exact rfl))
  | with_reducible refine exB ?_
  | with_reducible refine exI ?_
  | with_reducible refine exS ?_
  | with_reducible refine exL ?_
  | with_reducible refine exT ?_
  | with_reducible refine exLs ?_
  | with_reducible refine exIs ?_
  | with_reducible refine ex2 ?_
  | with_reducible refine ex3 ?_
  | with_reducible refine ln0 ?_
  | with_reducible refine ln1 ?_
  | with_reducible refine ln2 ?_
  | with_reducible refine ln3 ?_
  | with_reducible refine ln4 ?_
  | with_reducible refine ln5 ?_
  | with_reducible refine ln6 ?_
  | with_reducible refine ln7 ?_
  | with_reducible refine ln8 ?_
  | with_reducible refine ln9 ?_
  | with_reducible refine ln10 ?_
  | with_reducible refine ln11 ?_
  | with_reducible refine ln12 ?_
  | with_reducible refine cTT ?_
  | with_reducible refine cFT ?_
  | with_reducible refine cTF ?_
  | with_reducible refine cFF ?_
  | with_reducible refine nTT ?_
  | with_reducible refine nFT ?_
  | with_reducible refine nTF ?_
  | with_reducible refine nFF ?_
  | refine rd_ixT0 ?_
  | refine rd_ixL0 ?_
  | refine rd_ixT rfl ?_
  | refine rd_ixL rfl ?_)
local macro_rules | `(tactic| walk_at "dl") => `(tactic| repeat (walk_at "dl1"))
local macro_rules | `(tactic| walk_at "call1") => `(tactic| ((refine ⟨_, rfl, ?hcd, fun r hr => ?hcr⟩); (case hcd => first | assumption | rfl); (case hcr => (subst hr; try walk_at "dl"))))
local macro_rules | `(tactic| walk_at "and") => `(tactic| (refine ed_andE ?_; try walk_at "dl"))
local macro_rules | `(tactic| walk_at "k") => `(tactic| ((first | refine ct rfl ?_ | refine cf rfl ?_ | refine ct' rfl ?_ | refine cf' rfl ?_); try walk_at "dl"))
def hdLine : PySem.Str × PySem.Str × PySem.Str → PySem.Str := fun h => Txt.join " " ["if", h.1, h.2.1, h.2.2]
def linesDone (s : PT) : List PySem.Str := linesAll s.found ++ (match s.head with
  | none => []
  | some h => hdLine h :: (match s.first with
    | none => linesP s.body
    | some f => linesP f ++ (("else" : PySem.Str) :: linesP s.body)))
theorem linesAll_app (a b : List Stp) : linesAll (a ++ b) = linesAll a ++ linesAll b := List.flatMap_append ..
theorem done_step {s t : PT} {r : Row} (hf : s.head = none → s.first = none) (e : ptStep s r = some t) : (t.head = none → t.first = none) ∧ linesDone t = linesDone s ++ [r.line] := by
  obtain ⟨found, head, first, body⟩ := s
  dsimp only at hf
  cases r with
  | els =>
    cases head with
    | none => cases first <;> cases e
    | some hd =>
      cases first with
      | some f => cases e
      | none =>
        cases e
        refine ⟨fun z => (by cases z), ?_⟩
        simp [linesDone, linesP, Row.line]
  | en =>
    cases first with
    | none => cases head <;> cases e
    | some f =>
      cases head with
      | none => cases e
      | some hd =>
        obtain ⟨a, b, w⟩ := hd
        cases e
        refine ⟨fun _ => rfl, ?_⟩
        show linesAll (found ++ [Stp.iff a b w f body]) ++ [] = (linesAll found ++ (hdLine (a, b, w) :: (linesP f ++ (("else" : PySem.Str) :: linesP body)))) ++ [("end" : PySem.Str)]
        rw [linesAll_app, List.append_nil, List.append_assoc]
        congr 1
        show Stp.lines (.iff a b w f body) ++ [] = _
        simp [Stp.lines, hdLine]
  | hd a b w =>
    cases head with
    | some hd => cases e
    | none =>
      cases e
      have hf := hf rfl
      subst hf
      refine ⟨fun z => (by cases z), ?_⟩
      show linesAll found ++ [hdLine (a, b, w)] = (linesAll found ++ []) ++ [_]
      rw [List.append_nil]
      rfl
  | pl p =>
    cases head with
    | some hd =>
      cases e
      refine ⟨fun z => (by cases z), ?_⟩
      cases first <;> simp [linesDone, linesP, Row.line]
    | none =>
      cases e
      refine ⟨hf, ?_⟩
      show linesAll (found ++ [Stp.pl p]) ++ [] = (linesAll found ++ []) ++ [lineD p]
      rw [linesAll_app, List.append_nil, List.append_nil]
      rfl
theorem done_run : ∀ (rows : List Row) {s t : PT}, (s.head = none → s.first = none) → ptRun s rows = some t → linesDone t = linesDone s ++ rows.map Row.line
  | [], s, t, _, e => by cases e; simp
  | r :: rs, s, t, hf, e => by
    cases hs : ptStep s r with
    | none =>
      have : ptRun s (r :: rs) = none := by simp [ptRun, hs]
      rw [this] at e
      cases e
    | some u =>
      have : ptRun s (r :: rs) = ptRun u rs := by simp [ptRun, hs]
      rw [this] at e
      obtain ⟨h1, h2⟩ := done_step hf hs
      rw [done_run rs h1 e, h2, List.append_assoc]
      rfl
theorem ptAll_lines {rows : List Row} {ss : List Stp} (h : ptAll rows = some ss) : linesAll ss = rows.map Row.line := by
  unfold ptAll at h
  cases hr : ptRun ⟨[], none, none, []⟩ rows with
  | none => rw [hr] at h; cases h
  | some s =>
    rw [hr] at h
    have hd := done_run rows (fun _ => rfl) hr
    obtain ⟨found, head, first, body⟩ := s
    cases head with
    | some _ => cases h
    | none =>
      cases h
      have e : linesAll found ++ [] = [] ++ rows.map Row.line := hd
      rw [List.append_nil, List.nil_append] at e
      exact e
theorem rows_lines {n : Int} : ∀ {ls : List PySem.Str}, (∀ l ∈ ls, (rowOf n l).isSome = true) → (ls.filterMap (rowOf n)).map Row.line = ls
  | [], _ => rfl
  | l :: ls, h => by
    obtain ⟨r, hr⟩ := Option.isSome_iff_exists.mp (h l (by simp))
    rw [List.filterMap_cons, hr]
    show r.line :: _ = _
    rw [(rowOf_line hr).1, rows_lines fun l' h' => h l' (by simp [h'])]
end CL
set_option Elab.async false
set_option linter.all false
set_option maxRecDepth 100000
set_option maxHeartbeats 2000000
namespace CL
open PySem L2 DL
local macro_rules | `(tactic| walk_at "dl1") => `(tactic| first
  | ((with_reducible refine' ed_var ?hv ?_); (case hv => exact rfl))
  | with_reducible refine ed_int ?_
  | with_reducible refine ed_str ?_
  | with_reducible refine ed_bl ?_
  | with_reducible refine ed_non ?_
  | ((with_reducible refine' ed_jar0 ?hj ?_); (case hj => exact rfl); intro x hx)
  | ((with_reducible refine' ed_jar1 ?hj ?_); (case hj => exact rfl); intro x hx hx2)
  | ((with_reducible refine' ed_callJ ?hj ?_); (case hj => exact rfl))
  | ((with_reducible refine' sd_lapp ?hi ?_); (case hi => exact Nat.le_of_ble_eq_true rfl))
  | ((with_reducible refine' sd_jset0 ?hj ?_); (case hj => exact rfl))
  | ((with_reducible refine' sd_jset1 ?hj ?_); (case hj => exact rfl))
  | with_reducible refine ed_op ?_
  | with_reducible refine ea_cons ?_
  | with_reducible refine ea_nil ?_
  | with_reducible refine ed_isi ?_
  | with_reducible refine ed_cb ?_
  | with_reducible refine ed_zip ?_
  | with_reducible refine ed_sset ?_
  | with_reducible refine ed_rg1 ?_
  | with_reducible refine ed_rg2 ?_
  | with_reducible refine ed_call ?_
  | with_reducible refine ed_tup ?_
  | with_reducible refine ed_lst ?_
  | with_reducible refine ed_andV ?_
  | with_reducible refine ed_orV ?_
  | with_reducible refine ed_notV ?_
  | with_reducible refine ed_chain ?_
  | with_reducible refine ed_if ?_
  | with_reducible refine ed_un ?_
  | with_reducible refine ed_sl ?_
  | with_reducible refine ed_revL ?_
  | with_reducible refine ed_m1 ?_
  | with_reducible refine eo_no ?_
  | with_reducible refine eo_some ?_
  | with_reducible refine et_test ?_
  | with_reducible refine et_B ?_
  | with_reducible refine et_and ?_
  | with_reducible refine et_or ?_
  | with_reducible refine et_not ?_
  | with_reducible refine et_yes ?_
  | with_reducible refine sb_start (Nat.le_of_ble_eq_true rfl) (fun M' => ?_)
  | with_reducible refine sd_seq ?_
  | with_reducible refine ep_cons ?_
  | with_reducible refine ep_nil ?_
  | with_reducible refine sd_next ?_
  | with_reducible refine sd_set ?_
  | with_reducible refine sd_ret ?_
  | with_reducible refine sd_drop ?_
  | with_reducible refine sd_if ?_
  | with_reducible refine sd_par ?_
  | with_reducible refine sd_par3 ?_
  | with_reducible refine rd_addI ?_
  | with_reducible refine rd_subI ?_
  | with_reducible refine rd_ltI ?_
  | with_reducible refine rd_leI ?_
  | with_reducible refine rd_gtI ?_
  | with_reducible refine rd_geI ?_
  | with_reducible refine rd_isNo ?_
  | with_reducible refine rd_notNo ?_
  | with_reducible refine cd_lenL ?_
  | with_reducible refine cd_lenT ?_
  | with_reducible refine cd_abs ?_
  | with_reducible refine cd_intI ?_
  | with_reducible refine cd_intB ?_
  | with_reducible refine cd_strS ?_
  | with_reducible refine cd_listT ?_
  | with_reducible refine cd_tupleL ?_
  | with_reducible refine sd_L ?_
  | with_reducible refine sd_T ?_
  | with_reducible refine gd_name ?_
  | ((with_reducible refine' ed_lcL1y ?hv ?_); (case hv => exact rfl))
  | ((with_reducible refine' ed_lcT1y ?hv ?_); (case hv => exact rfl))
  | ((with_reducible refine' ed_lcL1 ?hv ?_); (case hv => exact rfl))
  | ((with_reducible refine' ed_lcT1 ?hv ?_); (case hv => exact rfl))
  | with_reducible refine exB ?_
  | with_reducible refine exI ?_
  | with_reducible refine exS ?_
  | with_reducible refine exL ?_
  | with_reducible refine exT ?_
  | with_reducible refine exLs ?_
  | with_reducible refine exIs ?_
  | with_reducible refine ex2 ?_
  | with_reducible refine ex3 ?_
  | with_reducible refine ln0 ?_
  | with_reducible refine ln1 ?_
  | with_reducible refine ln2 ?_
  | with_reducible refine ln3 ?_
  | with_reducible refine ln4 ?_
  | with_reducible refine ln5 ?_
  | with_reducible refine ln6 ?_
  | with_reducible refine ln7 ?_
  | with_reducible refine ln8 ?_
  | with_reducible refine ln9 ?_
  | with_reducible refine ln10 ?_
  | with_reducible refine ln11 ?_
  | with_reducible refine ln12 ?_
  | with_reducible refine cTT ?_
  | with_reducible refine cFT ?_
  | with_reducible refine cTF ?_
  | with_reducible refine cFF ?_
  | with_reducible refine nTT ?_
  | with_reducible refine nFT ?_
  | with_reducible refine nTF ?_
  | with_reducible refine nFF ?_
  | refine rd_ixT0 ?_
  | refine rd_ixL0 ?_
  | refine rd_ixT rfl ?_
  | refine rd_ixL rfl ?_)
local macro_rules | `(tactic| walk_at "dl") => `(tactic| repeat (walk_at "dl1"))
local macro_rules | `(tactic| walk_at "call1") => `(tactic| ((refine ⟨_, rfl, ?hcd, fun r hr => ?hcr⟩); (case hcd => first | assumption | rfl); (case hcr => (subst hr; try walk_at "dl"))))
local macro_rules | `(tactic| walk_at "and") => `(tactic| (refine ed_andE ?_; try walk_at "dl"))
local macro_rules | `(tactic| walk_at "k") => `(tactic| ((first | refine ct rfl ?_ | refine cf rfl ?_ | refine ct' rfl ?_ | refine cf' rfl ?_); try walk_at "dl"))
theorem from_wide {lo hi : Int} {y : PyData} (h0 : 0 ≤ lo) (h1 : hi ≤ 20) (h : fromD lo hi y = true) : fromD 0 20 y = true := by
  cases y with
  | int i =>
    have h : (decide (lo ≤ i) && decide (i ≤ hi)) = true := h
    rw [Bool.and_eq_true, decide_eq_true_eq, decide_eq_true_eq] at h
    show (decide ((0 : Int) ≤ i) && decide (i ≤ 20)) = true
    rw [decide_eq_true (by omega : (0 : Int) ≤ i), decide_eq_true (by omega : i ≤ 20)]
    rfl
  | _ => cases h
abbrev PartsOk (r : List PyData) : Prop := r.length ≤ 5 ∧ ∀ y ∈ r, nameD y = true ∨ fromD 0 20 y = true
theorem parts_2 {f g : PyData → Bool} {r : List PyData} (hf : ∀ y, f y = true → nameD y = true ∨ fromD 0 20 y = true) (hg : ∀ y, g y = true → nameD y = true ∨ fromD 0 20 y = true) (h : p2 (fun a b => f a && g b) r = true) : PartsOk r := by
  rcases r with _ | ⟨a, _ | ⟨b, _ | ⟨c, t⟩⟩⟩
  · cases h
  · cases h
  · have h : (f a && g b) = true := h
    rw [Bool.and_eq_true] at h
    refine ⟨by simp, fun y hy => ?_⟩
    simp only [List.mem_cons, List.not_mem_nil, or_false] at hy
    rcases hy with rfl | rfl
    · exact hf _ h.1
    · exact hg _ h.2
  · cases h
theorem parts_3 {f g k : PyData → Bool} {r : List PyData} (hf : ∀ y, f y = true → nameD y = true ∨ fromD 0 20 y = true) (hg : ∀ y, g y = true → nameD y = true ∨ fromD 0 20 y = true) (hk : ∀ y, k y = true → nameD y = true ∨ fromD 0 20 y = true) (h : p3 (fun a b c => f a && (g b && k c)) r = true) : PartsOk r := by
  rcases r with _ | ⟨a, _ | ⟨b, _ | ⟨c, _ | ⟨d, t⟩⟩⟩⟩
  · cases h
  · cases h
  · cases h
  · have h : (f a && (g b && k c)) = true := h
    rw [Bool.and_eq_true, Bool.and_eq_true] at h
    refine ⟨by simp, fun y hy => ?_⟩
    simp only [List.mem_cons, List.not_mem_nil, or_false] at hy
    rcases hy with rfl | rfl | rfl
    · exact hf _ h.1
    · exact hg _ h.2.1
    · exact hk _ h.2.2
  · cases h
theorem parts_of {n : Int} (hn : n ≤ 2) {w : PySem.Str} {r : List PyData} (h : plainD n w r = true) : PartsOk r := by
  have nm : ∀ y, nameD y = true → nameD y = true ∨ fromD 0 20 y = true := fun y z => .inl z
  have tpp : ∀ y, fromD 0 (n - 1) y = true → nameD y = true ∨ fromD 0 20 y = true := fun y z => .inr (from_wide (by decide) (by omega) z)
  have mk : ∀ y, fromD 3 20 y = true → nameD y = true ∨ fromD 0 20 y = true := fun y z => .inr (from_wide (by decide) (by decide) z)
  have mn : ∀ y, fromD 1 20 y = true → nameD y = true ∨ fromD 0 20 y = true := fun y z => .inr (from_wide (by decide) (by decide) z)
  unfold plainD at h
  split at h
  · exact parts_3 nm tpp mk h
  split at h
  · exact parts_3 nm nm mn h
  split at h
  · exact parts_3 nm nm nm h
  split at h
  · exact parts_2 nm nm h
  split at h
  · exact parts_2 nm tpp h
  split at h
  · rcases r with _ | ⟨a, _ | ⟨b, _ | ⟨c, _ | ⟨d, _ | ⟨e, _ | ⟨f, t⟩⟩⟩⟩⟩⟩
    · cases h
    · cases h
    · cases h
    · cases h
    · cases h
    · have h : ((nameD a && (nameD b && nameD c)) && (!PyData.eqv a b && (fromD 0 (n - 1) d && fromD 3 20 e))) = true := h
      simp only [Bool.and_eq_true] at h
      refine ⟨by simp, fun y hy => ?_⟩
      simp only [List.mem_cons, List.not_mem_nil, or_false] at hy
      rcases hy with rfl | rfl | rfl | rfl | rfl
      · exact nm _ h.1.1
      · exact nm _ h.1.2.1
      · exact nm _ h.1.2.2
      · exact tpp _ h.2.2.1
      · exact mk _ h.2.2.2
    · cases h
  · cases h
end CL
set_option Elab.async false
set_option linter.all false
set_option maxRecDepth 100000
set_option maxHeartbeats 2000000
namespace CL
open PySem L2 DL
local macro_rules | `(tactic| walk_at "dl1") => `(tactic| first
  | ((with_reducible refine' ed_var ?hv ?_); (case hv => exact rfl))
  | with_reducible refine ed_int ?_
  | with_reducible refine ed_str ?_
  | with_reducible refine ed_bl ?_
  | with_reducible refine ed_non ?_
  | ((with_reducible refine' ed_jar0 ?hj ?_); (case hj => exact rfl); intro x hx)
  | ((with_reducible refine' ed_jar1 ?hj ?_); (case hj => exact rfl); intro x hx hx2)
  | ((with_reducible refine' ed_callJ ?hj ?_); (case hj => exact rfl))
  | ((with_reducible refine' sd_lapp ?hi ?_); (case hi => exact Nat.le_of_ble_eq_true rfl))
  | ((with_reducible refine' sd_jset0 ?hj ?_); (case hj => exact rfl))
  | ((with_reducible refine' sd_jset1 ?hj ?_); (case hj => exact rfl))
  | with_reducible refine ed_op ?_
  | with_reducible refine ea_cons ?_
  | with_reducible refine ea_nil ?_
  | with_reducible refine ed_isi ?_
  | with_reducible refine ed_cb ?_
  | with_reducible refine ed_zip ?_
  | with_reducible refine ed_sset ?_
  | with_reducible refine ed_rg1 ?_
  | with_reducible refine ed_rg2 ?_
  | with_reducible refine ed_call ?_
  | with_reducible refine ed_tup ?_
  | with_reducible refine ed_lst ?_
  | with_reducible refine ed_andV ?_
  | with_reducible refine ed_orV ?_
  | with_reducible refine ed_notV ?_
  | with_reducible refine ed_chain ?_
  | with_reducible refine ed_if ?_
  | with_reducible refine ed_un ?_
  | with_reducible refine ed_sl ?_
  | with_reducible refine ed_revL ?_
  | with_reducible refine ed_m1 ?_
  | with_reducible refine eo_no ?_
  | with_reducible refine eo_some ?_
  | with_reducible refine et_test ?_
  | with_reducible refine et_B ?_
  | with_reducible refine et_and ?_
  | with_reducible refine et_or ?_
  | with_reducible refine et_not ?_
  | with_reducible refine et_yes ?_
  | with_reducible refine sb_start (Nat.le_of_ble_eq_true rfl) (fun M' => ?_)
  | with_reducible refine sd_seq ?_
  | with_reducible refine ep_cons ?_
  | with_reducible refine ep_nil ?_
  | with_reducible refine sd_next ?_
  | with_reducible refine sd_set ?_
  | with_reducible refine sd_ret ?_
  | with_reducible refine sd_drop ?_
  | with_reducible refine sd_if ?_
  | with_reducible refine sd_par ?_
  | with_reducible refine sd_par3 ?_
  | with_reducible refine rd_addI ?_
  | with_reducible refine rd_subI ?_
  | with_reducible refine rd_ltI ?_
  | with_reducible refine rd_leI ?_
  | with_reducible refine rd_gtI ?_
  | with_reducible refine rd_geI ?_
  | with_reducible refine rd_isNo ?_
  | with_reducible refine rd_notNo ?_
  | with_reducible refine cd_lenL ?_
  | with_reducible refine cd_lenT ?_
  | with_reducible refine cd_abs ?_
  | with_reducible refine cd_intI ?_
  | with_reducible refine cd_intB ?_
  | with_reducible refine cd_strS ?_
  | with_reducible refine cd_listT ?_
  | with_reducible refine cd_tupleL ?_
  | with_reducible refine sd_L ?_
  | with_reducible refine sd_T ?_
  | with_reducible refine gd_name ?_
  | ((with_reducible refine' ed_lcL1y ?hv ?_); (case hv => exact rfl))
  | ((with_reducible refine' ed_lcT1y ?hv ?_); (case hv => exact rfl))
  | ((with_reducible refine' ed_lcL1 ?hv ?_); (case hv => exact rfl))
  | ((with_reducible refine' ed_lcT1 ?hv ?_); (case hv => exact rfl))
  | with_reducible refine exB ?_
  | with_reducible refine exI ?_
  | with_reducible refine exS ?_
  | with_reducible refine exL ?_
  | with_reducible refine exT ?_
  | with_reducible refine exLs ?_
  | with_reducible refine exIs ?_
  | with_reducible refine ex2 ?_
  | with_reducible refine ex3 ?_
  | with_reducible refine ln0 ?_
  | with_reducible refine ln1 ?_
  | with_reducible refine ln2 ?_
  | with_reducible refine ln3 ?_
  | with_reducible refine ln4 ?_
  | with_reducible refine ln5 ?_
  | with_reducible refine ln6 ?_
  | with_reducible refine ln7 ?_
  | with_reducible refine ln8 ?_
  | with_reducible refine ln9 ?_
  | with_reducible refine ln10 ?_
  | with_reducible refine ln11 ?_
  | with_reducible refine ln12 ?_
  | with_reducible refine cTT ?_
  | with_reducible refine cFT ?_
  | with_reducible refine cTF ?_
  | with_reducible refine cFF ?_
  | with_reducible refine nTT ?_
  | with_reducible refine nFT ?_
  | with_reducible refine nTF ?_
  | with_reducible refine nFF ?_
  | refine rd_ixT0 ?_
  | refine rd_ixL0 ?_
  | refine rd_ixT rfl ?_
  | refine rd_ixL rfl ?_)
local macro_rules | `(tactic| walk_at "dl") => `(tactic| repeat (walk_at "dl1"))
local macro_rules | `(tactic| walk_at "call1") => `(tactic| ((refine ⟨_, rfl, ?hcd, fun r hr => ?hcr⟩); (case hcd => first | assumption | rfl); (case hcr => (subst hr; try walk_at "dl"))))
local macro_rules | `(tactic| walk_at "and") => `(tactic| (refine ed_andE ?_; try walk_at "dl"))
local macro_rules | `(tactic| walk_at "k") => `(tactic| ((first | refine ct rfl ?_ | refine cf rfl ?_ | refine ct' rfl ?_ | refine cf' rfl ?_); try walk_at "dl"))
theorem part_cases {y : PyData} (h : nameD y = true ∨ fromD 0 20 y = true) : (∃ s, y = .str s ∧ s ∈ NMS) ∨ ∃ m : Nat, y = .int m ∧ m ≤ 20 := by
  rcases h with h | h
  · cases y with
    | str s => exact .inl ⟨s, rfl, of_decide_eq_true h⟩
    | _ => cases h
  · cases y with
    | int i =>
      have h : (decide ((0 : Int) ≤ i) && decide (i ≤ 20)) = true := h
      rw [Bool.and_eq_true, decide_eq_true_eq, decide_eq_true_eq] at h
      exact .inr ⟨i.toNat, by congr 1; omega, by omega⟩
    | _ => cases h
theorem part_len {y : PyData} (h : nameD y = true ∨ fromD 0 20 y = true) : (lineW y).length ≤ 2 := by
  rcases part_cases h with ⟨s, rfl, hs⟩ | ⟨m, rfl, hm⟩
  · exact (by decide +kernel : ∀ s ∈ NMS, s.length ≤ 2) s hs
  · exact (by decide +kernel : ∀ m ≤ 20, (numS m).length ≤ 2) m hm
theorem sum_le {k : Nat} : ∀ {l : List Nat}, (∀ x ∈ l, x ≤ k) → l.sum ≤ k * l.length
  | [], _ => by simp
  | a :: l, h => by
    have := sum_le (k := k) (l := l) fun x hx => h x (by simp [hx])
    have h2 := h a (by simp)
    rw [List.sum_cons, List.length_cons, Nat.mul_add]
    omega
theorem line_words {n : Int} (hn : n ≤ 2) {p : Pl} (h : GoodPl n p) : (((.str p.1 :: p.2).map lineW).map (·.length)).sum ≤ 15 ∧ p.2.length ≤ 5 := by
  obtain ⟨h1, h2⟩ := parts_of hn h.ok
  have hk := kw_of h.ok
  have hw : p.1.length ≤ 5 := (by decide +kernel : ∀ w ∈ KINDS, w.length ≤ 5) _ hk
  have hs := sum_le (k := 2) (l := (p.2.map lineW).map (·.length)) fun x hx => by
    rw [List.map_map] at hx
    obtain ⟨y, hy, rfl⟩ := List.mem_map.mp hx
    exact part_len (h2 y hy)
  rw [List.length_map, List.length_map] at hs
  refine ⟨?_, h1⟩
  show p.1.length + ((p.2.map lineW).map (·.length)).sum ≤ 15
  omega
theorem lineOk_of {n : Int} (hn : n ≤ 2) {p : Pl} (h : GoodPl n p) : LineOk p := by
  obtain ⟨h1, h2⟩ := line_words hn h
  refine ⟨h.flat, h.noif, fun i hi => ?_, by omega, by omega⟩
  rcases part_cases ((parts_of hn h.ok).2 _ hi) with ⟨s, e, _⟩ | ⟨m, e, hm⟩
  · cases e
  · cases e
    exact log2_small (by omega)
theorem lok_of {n : Int} (hn : n ≤ 2) {s : Stp} (h : GoodSt n s) (hk : s.ok = true) : s.lok := by
  cases s with
  | pl p => exact lineOk_of hn h
  | iff a b w b1 b2 =>
    obtain ⟨ha, hb, hw, ⟨_, h1⟩, ⟨_, h2⟩⟩ := h
    have hk : (decide ((b1.length : Int) ≤ 3) && decide ((b2.length : Int) ≤ 3)) = true := hk
    rw [Bool.and_eq_true, decide_eq_true_eq, decide_eq_true_eq] at hk
    refine ⟨⟨fun s hs => lineOk_of hn (h1 s hs), by omega⟩, ⟨fun s hs => lineOk_of hn (h2 s hs), by omega⟩, ?_⟩
    have e1 : a.length ≤ 1 := (by decide +kernel : ∀ s ∈ NMS, s.length ≤ 1) a ha
    have e2 : b.length ≤ 1 := (by decide +kernel : ∀ s ∈ NMS, s.length ≤ 1) b hb
    have e3 : w.length ≤ 7 := (by decide +kernel : ∀ s ∈ SEENS, s.length ≤ 7) w hw
    omega
theorem find_eq {n : Nat} (hn : n ≤ 2) (ls : List PySem.Str) : ls.findIdx? (fun l => !lineG n l) = ls.findIdx? (fun l => (rowOf n l).isNone) := by
  congr 1
  funext l
  rw [lineG_eq hn]
  cases rowOf n l <;> rfl
theorem lines_cost (t : PySem.Str) : costL (textLines t) ≤ t.length + 1 := by
  unfold textLines
  split
  · exact Nat.zero_le _
  · exact split_cost (by rw [nl_tl]; simp) nl_all t
theorem law_due (n : Nat) (t : PySem.Str) (_ : 1 ≤ n) (hn : n ≤ 2) (ht : t.length ≤ 50000) : match rdText n (.str t) with
    | .ok ss => dueL n (textLines t) = .none ∧ (∀ s ∈ ss, s.lok) ∧ (linesAll ss).length ≤ 500000 ∧ ((linesAll ss).map (·.length)).sum + (linesAll ss).length * 1 ≤ 16777216 ∧ textOf ss = t
    | .error k => dueL n (textLines t) = .int k := by
  have hc := lines_cost t
  have hj := join_lines t
  show match rdLines n (textLines t) with
    | .ok ss => dueL n (textLines t) = .none ∧ (∀ s ∈ ss, s.lok) ∧ (linesAll ss).length ≤ 500000 ∧ ((linesAll ss).map (·.length)).sum + (linesAll ss).length * 1 ≤ 16777216 ∧ textOf ss = t
    | .error k => dueL n (textLines t) = .int k
  generalize textLines t = ls at hc hj ⊢
  have hl := len_cost ls
  unfold rdLines dueL
  rw [find_eq hn]
  cases hf : ls.findIdx? (fun l => (rowOf n l).isNone) with
  | some i => rfl
  | none =>
    have hall : ∀ l ∈ ls, (rowOf n l).isSome = true := fun l h => by
      have := List.findIdx?_eq_none_iff.mp hf l h
      cases hr : rowOf n l with
      | none => rw [hr] at this; cases this
      | some _ => rfl
    have hw := whole_eq hall
    dsimp only
    unfold rdRows
    cases hp : ptAll (ls.filterMap (rowOf n)) with
    | none =>
      rw [hp] at hw
      dsimp only
      rw [if_neg (by rw [hw]; simp)]
    | some ss =>
      rw [hp] at hw
      have hw : wholeG ls = scriptOk ss := hw
      dsimp only
      cases hs : scriptOk ss with
      | false =>
        rw [hs] at hw
        rw [if_neg (by simp), if_neg (by rw [hw]; simp)]
      | true =>
        rw [hs] at hw
        rw [if_pos rfl, if_pos hw]
        have hlines : linesAll ss = ls := (ptAll_lines hp).trans (rows_lines hall)
        have hfl : (ls.filterMap (rowOf n)).length ≤ ls.length := List.length_filterMap_le ..
        have hgood := ptAll_good (n := n) (by omega) (fun r hr => by
          obtain ⟨l, _, e⟩ := List.mem_filterMap.mp hr
          exact rowOf_good e) hp
        have hoks : ss.all Stp.ok = true := by
          unfold scriptOk at hs
          rw [Bool.and_eq_true, Bool.and_eq_true] at hs
          exact hs.1.2
        refine ⟨rfl, fun s h => lok_of (by omega) (hgood.2 s h) (List.all_eq_true.mp hoks s h), by rw [hlines]; omega, ?_, ?_⟩
        · rw [hlines]
          unfold costL at hc
          omega
        · show Txt.join "\n" (linesAll ss) = t
          rw [hlines]
          exact hj
end CL
set_option Elab.async false
set_option linter.all false
set_option maxRecDepth 100000
set_option maxHeartbeats 2000000
namespace CL
open PySem L2 DL
local macro_rules | `(tactic| walk_at "dl1") => `(tactic| first
  | ((with_reducible refine' ed_var ?hv ?_); (case hv => exact rfl))
  | with_reducible refine ed_int ?_
  | with_reducible refine ed_str ?_
  | with_reducible refine ed_bl ?_
  | with_reducible refine ed_non ?_
  | ((with_reducible refine' ed_jar0 ?hj ?_); (case hj => exact rfl); intro x hx)
  | ((with_reducible refine' ed_jar1 ?hj ?_); (case hj => exact rfl); intro x hx hx2)
  | ((with_reducible refine' ed_callJ ?hj ?_); (case hj => exact rfl))
  | ((with_reducible refine' sd_lapp ?hi ?_); (case hi => exact Nat.le_of_ble_eq_true rfl))
  | ((with_reducible refine' sd_jset0 ?hj ?_); (case hj => exact rfl))
  | ((with_reducible refine' sd_jset1 ?hj ?_); (case hj => exact rfl))
  | with_reducible refine ed_op ?_
  | with_reducible refine ea_cons ?_
  | with_reducible refine ea_nil ?_
  | with_reducible refine ed_isi ?_
  | with_reducible refine ed_cb ?_
  | with_reducible refine ed_zip ?_
  | with_reducible refine ed_sset ?_
  | with_reducible refine ed_rg1 ?_
  | with_reducible refine ed_rg2 ?_
  | with_reducible refine ed_call ?_
  | with_reducible refine ed_tup ?_
  | with_reducible refine ed_lst ?_
  | with_reducible refine ed_andV ?_
  | with_reducible refine ed_orV ?_
  | with_reducible refine ed_notV ?_
  | with_reducible refine ed_chain ?_
  | with_reducible refine ed_if ?_
  | with_reducible refine ed_un ?_
  | with_reducible refine ed_sl ?_
  | with_reducible refine ed_revL ?_
  | with_reducible refine ed_m1 ?_
  | with_reducible refine eo_no ?_
  | with_reducible refine eo_some ?_
  | with_reducible refine et_test ?_
  | with_reducible refine et_B ?_
  | with_reducible refine et_and ?_
  | with_reducible refine et_or ?_
  | with_reducible refine et_not ?_
  | with_reducible refine et_yes ?_
  | with_reducible refine sb_start (Nat.le_of_ble_eq_true rfl) (fun M' => ?_)
  | with_reducible refine sd_seq ?_
  | with_reducible refine ep_cons ?_
  | with_reducible refine ep_nil ?_
  | with_reducible refine sd_next ?_
  | with_reducible refine sd_set ?_
  | with_reducible refine sd_ret ?_
  | with_reducible refine sd_drop ?_
  | with_reducible refine sd_if ?_
  | with_reducible refine sd_par ?_
  | with_reducible refine sd_par3 ?_
  | with_reducible refine rd_addI ?_
  | with_reducible refine rd_subI ?_
  | with_reducible refine rd_ltI ?_
  | with_reducible refine rd_leI ?_
  | with_reducible refine rd_gtI ?_
  | with_reducible refine rd_geI ?_
  | with_reducible refine rd_isNo ?_
  | with_reducible refine rd_notNo ?_
  | with_reducible refine cd_lenL ?_
  | with_reducible refine cd_lenT ?_
  | with_reducible refine cd_abs ?_
  | with_reducible refine cd_intI ?_
  | with_reducible refine cd_intB ?_
  | with_reducible refine cd_strS ?_
  | with_reducible refine cd_listT ?_
  | with_reducible refine cd_tupleL ?_
  | with_reducible refine sd_L ?_
  | with_reducible refine sd_T ?_
  | with_reducible refine gd_name ?_
  | ((with_reducible refine' ed_lcL1y ?hv ?_); (case hv => exact rfl))
  | ((with_reducible refine' ed_lcT1y ?hv ?_); (case hv => exact rfl))
  | ((with_reducible refine' ed_lcL1 ?hv ?_); (case hv => exact rfl))
  | ((with_reducible refine' ed_lcT1 ?hv ?_); (case hv => exact rfl))
  | with_reducible refine exB ?_
  | with_reducible refine exI ?_
  | with_reducible refine exS ?_
  | with_reducible refine exL ?_
  | with_reducible refine exT ?_
  | with_reducible refine exLs ?_
  | with_reducible refine exIs ?_
  | with_reducible refine ex2 ?_
  | with_reducible refine ex3 ?_
  | with_reducible refine ln0 ?_
  | with_reducible refine ln1 ?_
  | with_reducible refine ln2 ?_
  | with_reducible refine ln3 ?_
  | with_reducible refine ln4 ?_
  | with_reducible refine ln5 ?_
  | with_reducible refine ln6 ?_
  | with_reducible refine ln7 ?_
  | with_reducible refine ln8 ?_
  | with_reducible refine ln9 ?_
  | with_reducible refine ln10 ?_
  | with_reducible refine ln11 ?_
  | with_reducible refine ln12 ?_
  | with_reducible refine cTT ?_
  | with_reducible refine cFT ?_
  | with_reducible refine cTF ?_
  | with_reducible refine cFF ?_
  | with_reducible refine nTT ?_
  | with_reducible refine nFT ?_
  | with_reducible refine nTF ?_
  | with_reducible refine nFF ?_
  | refine rd_ixT0 ?_
  | refine rd_ixL0 ?_
  | refine rd_ixT rfl ?_
  | refine rd_ixL rfl ?_)
local macro_rules | `(tactic| walk_at "dl") => `(tactic| repeat (walk_at "dl1"))
local macro_rules | `(tactic| walk_at "call1") => `(tactic| ((refine ⟨_, rfl, ?hcd, fun r hr => ?hcr⟩); (case hcd => first | assumption | rfl); (case hcr => (subst hr; try walk_at "dl"))))
local macro_rules | `(tactic| walk_at "and") => `(tactic| (refine ed_andE ?_; try walk_at "dl"))
local macro_rules | `(tactic| walk_at "k") => `(tactic| ((first | refine ct rfl ?_ | refine cf rfl ?_ | refine ct' rfl ?_ | refine cf' rfl ?_); try walk_at "dl"))
/-! ### a drawn script read back -/
def Stp.rows : Stp → List Row
  | .pl p => [.pl p]
  | .iff a b w b1 b2 => [Row.hd a b w] ++ b1.map Row.pl ++ [Row.els] ++ b2.map Row.pl ++ [Row.en]
def rowsAll (ss : List Stp) : List Row := ss.flatMap Stp.rows
theorem rowsAll_lines : ∀ ss : List Stp, (rowsAll ss).map Row.line = linesAll ss
  | [] => rfl
  | s :: ss => by
    show (s.rows ++ rowsAll ss).map Row.line = s.lines ++ linesAll ss
    rw [List.map_append, rowsAll_lines ss]
    congr 1
    cases s with
    | pl p => rfl
    | iff a b w b1 b2 =>
      show ([Row.hd a b w] ++ b1.map Row.pl ++ [Row.els] ++ b2.map Row.pl ++ [Row.en]).map Row.line = _
      have e : Row.line ∘ Row.pl = lineD := rfl
      simp [Stp.lines, linesP, Row.line, e]
theorem run_pls {found : List Stp} {hd : PySem.Str × PySem.Str × PySem.Str} {first : Option (List Pl)} : ∀ (b : List Pl) (body : List Pl), ptRun ⟨found, some hd, first, body⟩ (b.map Row.pl) = some ⟨found, some hd, first, body ++ b⟩
  | [], body => by rw [List.append_nil]; rfl
  | p :: b, body => by
    show ptRun ⟨found, some hd, first, body ++ [p]⟩ (b.map Row.pl) = _
    rw [run_pls b, List.append_assoc]
    rfl
theorem run_stp (found : List Stp) (s : Stp) : ptRun ⟨found, none, none, []⟩ s.rows = some ⟨found ++ [s], none, none, []⟩ := by
  cases s with
  | pl p => rfl
  | iff a b w b1 b2 =>
    show ptRun ⟨found, none, none, []⟩ ([Row.hd a b w] ++ b1.map Row.pl ++ [Row.els] ++ b2.map Row.pl ++ [Row.en]) = _
    rw [ptRun_app, ptRun_app, ptRun_app, ptRun_app]
    have e1 : ptRun ⟨found, none, none, []⟩ [Row.hd a b w] = some ⟨found, some (a, b, w), none, []⟩ := rfl
    rw [e1]
    dsimp only
    rw [run_pls]
    dsimp only
    have e2 : ptRun ⟨found, some (a, b, w), none, [] ++ b1⟩ [Row.els] = some ⟨found, some (a, b, w), some ([] ++ b1), []⟩ := rfl
    rw [e2]
    dsimp only
    rw [run_pls]
    rfl
theorem run_all : ∀ (ss found : List Stp), ptRun ⟨found, none, none, []⟩ (rowsAll ss) = some ⟨found ++ ss, none, none, []⟩
  | [], found => by rw [List.append_nil]; rfl
  | s :: ss, found => by
    show ptRun _ (s.rows ++ rowsAll ss) = _
    rw [ptRun_app, run_stp]
    dsimp only
    rw [run_all ss, List.append_assoc]
    rfl
theorem ptAll_rows (ss : List Stp) : ptAll (rowsAll ss) = some ss := by
  unfold ptAll
  rw [run_all]
  rfl
end CL
set_option Elab.async false
set_option linter.all false
set_option maxRecDepth 100000
set_option maxHeartbeats 2000000
namespace CL
open PySem L2 DL
local macro_rules | `(tactic| walk_at "dl1") => `(tactic| first
  | ((with_reducible refine' ed_var ?hv ?_); (case hv => exact rfl))
  | with_reducible refine ed_int ?_
  | with_reducible refine ed_str ?_
  | with_reducible refine ed_bl ?_
  | with_reducible refine ed_non ?_
  | ((with_reducible refine' ed_jar0 ?hj ?_); (case hj => exact rfl); intro x hx)
  | ((with_reducible refine' ed_jar1 ?hj ?_); (case hj => exact rfl); intro x hx hx2)
  | ((with_reducible refine' ed_callJ ?hj ?_); (case hj => exact rfl))
  | ((with_reducible refine' sd_lapp ?hi ?_); (case hi => exact Nat.le_of_ble_eq_true rfl))
  | ((with_reducible refine' sd_jset0 ?hj ?_); (case hj => exact rfl))
  | ((with_reducible refine' sd_jset1 ?hj ?_); (case hj => exact rfl))
  | with_reducible refine ed_op ?_
  | with_reducible refine ea_cons ?_
  | with_reducible refine ea_nil ?_
  | with_reducible refine ed_isi ?_
  | with_reducible refine ed_cb ?_
  | with_reducible refine ed_zip ?_
  | with_reducible refine ed_sset ?_
  | with_reducible refine ed_rg1 ?_
  | with_reducible refine ed_rg2 ?_
  | with_reducible refine ed_call ?_
  | with_reducible refine ed_tup ?_
  | with_reducible refine ed_lst ?_
  | with_reducible refine ed_andV ?_
  | with_reducible refine ed_orV ?_
  | with_reducible refine ed_notV ?_
  | with_reducible refine ed_chain ?_
  | with_reducible refine ed_if ?_
  | with_reducible refine ed_un ?_
  | with_reducible refine ed_sl ?_
  | with_reducible refine ed_revL ?_
  | with_reducible refine ed_m1 ?_
  | with_reducible refine eo_no ?_
  | with_reducible refine eo_some ?_
  | with_reducible refine et_test ?_
  | with_reducible refine et_B ?_
  | with_reducible refine et_and ?_
  | with_reducible refine et_or ?_
  | with_reducible refine et_not ?_
  | with_reducible refine et_yes ?_
  | with_reducible refine sb_start (Nat.le_of_ble_eq_true rfl) (fun M' => ?_)
  | with_reducible refine sd_seq ?_
  | with_reducible refine ep_cons ?_
  | with_reducible refine ep_nil ?_
  | with_reducible refine sd_next ?_
  | with_reducible refine sd_set ?_
  | with_reducible refine sd_ret ?_
  | with_reducible refine sd_drop ?_
  | with_reducible refine sd_if ?_
  | with_reducible refine sd_par ?_
  | with_reducible refine sd_par3 ?_
  | with_reducible refine rd_addI ?_
  | with_reducible refine rd_subI ?_
  | with_reducible refine rd_ltI ?_
  | with_reducible refine rd_leI ?_
  | with_reducible refine rd_gtI ?_
  | with_reducible refine rd_geI ?_
  | with_reducible refine rd_isNo ?_
  | with_reducible refine rd_notNo ?_
  | with_reducible refine cd_lenL ?_
  | with_reducible refine cd_lenT ?_
  | with_reducible refine cd_abs ?_
  | with_reducible refine cd_intI ?_
  | with_reducible refine cd_intB ?_
  | with_reducible refine cd_strS ?_
  | with_reducible refine cd_listT ?_
  | with_reducible refine cd_tupleL ?_
  | with_reducible refine sd_L ?_
  | with_reducible refine sd_T ?_
  | with_reducible refine gd_name ?_
  | ((with_reducible refine' ed_lcL1y ?hv ?_); (case hv => exact rfl))
  | ((with_reducible refine' ed_lcT1y ?hv ?_); (case hv => exact rfl))
  | ((with_reducible refine' ed_lcL1 ?hv ?_); (case hv => exact rfl))
  | ((with_reducible refine' ed_lcT1 ?hv ?_); (case hv => exact rfl))
  | with_reducible refine exB ?_
  | with_reducible refine exI ?_
  | with_reducible refine exS ?_
  | with_reducible refine exL ?_
  | with_reducible refine exT ?_
  | with_reducible refine exLs ?_
  | with_reducible refine exIs ?_
  | with_reducible refine ex2 ?_
  | with_reducible refine ex3 ?_
  | with_reducible refine ln0 ?_
  | with_reducible refine ln1 ?_
  | with_reducible refine ln2 ?_
  | with_reducible refine ln3 ?_
  | with_reducible refine ln4 ?_
  | with_reducible refine ln5 ?_
  | with_reducible refine ln6 ?_
  | with_reducible refine ln7 ?_
  | with_reducible refine ln8 ?_
  | with_reducible refine ln9 ?_
  | with_reducible refine ln10 ?_
  | with_reducible refine ln11 ?_
  | with_reducible refine ln12 ?_
  | with_reducible refine cTT ?_
  | with_reducible refine cFT ?_
  | with_reducible refine cTF ?_
  | with_reducible refine cFF ?_
  | with_reducible refine nTT ?_
  | with_reducible refine nFT ?_
  | with_reducible refine nTF ?_
  | with_reducible refine nFF ?_
  | refine rd_ixT0 ?_
  | refine rd_ixL0 ?_
  | refine rd_ixT rfl ?_
  | refine rd_ixL rfl ?_)
local macro_rules | `(tactic| walk_at "dl") => `(tactic| repeat (walk_at "dl1"))
local macro_rules | `(tactic| walk_at "call1") => `(tactic| ((refine ⟨_, rfl, ?hcd, fun r hr => ?hcr⟩); (case hcd => first | assumption | rfl); (case hcr => (subst hr; try walk_at "dl"))))
local macro_rules | `(tactic| walk_at "and") => `(tactic| (refine ed_andE ?_; try walk_at "dl"))
local macro_rules | `(tactic| walk_at "k") => `(tactic| ((first | refine ct rfl ?_ | refine cf rfl ?_ | refine ct' rfl ?_ | refine cf' rfl ?_); try walk_at "dl"))
def cleanW (s : PySem.Str) : Bool := (TL.tl s).all (fun c => decide (c ≠ 32) && decide (c ≠ 10))
theorem clean_sp {s : PySem.Str} (h : cleanW s = true) : 32 ∉ TL.tl s := fun z => by
  have := List.all_eq_true.mp h 32 z
  simp at this
theorem clean_nl {s : PySem.Str} (h : cleanW s = true) : 10 ∉ TL.tl s := fun z => by
  have := List.all_eq_true.mp h 10 z
  simp at this
theorem split_words {ws : List PySem.Str} (hne : ws ≠ []) (h : ∀ w ∈ ws, cleanW w = true) : Txt.split (Txt.join " " ws) " " = ws :=
  TL.split_join (y := " ") (s := 32) (S := []) sp_tl sp_all hne fun p hp => clean_sp (h p hp)
theorem part_clean {y : PyData} (h : PartOk y) : cleanW (lineW y) = true ∧ intOf (lineW y) = y := by
  rcases h with ⟨x, rfl, hx⟩ | ⟨k, rfl, hk⟩
  · refine ⟨(by decide +kernel : ∀ x ∈ ABCD, cleanW x = true) x hx, ?_⟩
    have hn : x ∈ NMS := (by decide +kernel : ∀ x ∈ ABCD, x ∈ NMS) x hx
    show intOf x = .str x
    cases h : intOf x with
    | int k =>
      obtain ⟨m, rfl, h20, e⟩ := intOf_num h
      exact absurd e (nm_not_num x hn m h20)
    | str u => rw [intOf_str h]
    | _ => rcases intOf_flat x with z | z <;> (rw [h] at z; cases z)
  · exact ⟨(by decide +kernel : ∀ k ≤ 20, cleanW (numS k) = true) k hk, intOf_numE hk⟩
theorem kw_clean : ∀ w ∈ KINDS, cleanW w = true ∧ ¬ w = "else" ∧ ¬ w = "end" := by decide +kernel
end CL
set_option Elab.async false
set_option linter.all false
set_option maxRecDepth 100000
set_option maxHeartbeats 2000000
namespace CL
open PySem L2 DL
local macro_rules | `(tactic| walk_at "dl1") => `(tactic| first
  | ((with_reducible refine' ed_var ?hv ?_); (case hv => exact rfl))
  | with_reducible refine ed_int ?_
  | with_reducible refine ed_str ?_
  | with_reducible refine ed_bl ?_
  | with_reducible refine ed_non ?_
  | ((with_reducible refine' ed_jar0 ?hj ?_); (case hj => exact rfl); intro x hx)
  | ((with_reducible refine' ed_jar1 ?hj ?_); (case hj => exact rfl); intro x hx hx2)
  | ((with_reducible refine' ed_callJ ?hj ?_); (case hj => exact rfl))
  | ((with_reducible refine' sd_lapp ?hi ?_); (case hi => exact Nat.le_of_ble_eq_true rfl))
  | ((with_reducible refine' sd_jset0 ?hj ?_); (case hj => exact rfl))
  | ((with_reducible refine' sd_jset1 ?hj ?_); (case hj => exact rfl))
  | with_reducible refine ed_op ?_
  | with_reducible refine ea_cons ?_
  | with_reducible refine ea_nil ?_
  | with_reducible refine ed_isi ?_
  | with_reducible refine ed_cb ?_
  | with_reducible refine ed_zip ?_
  | with_reducible refine ed_sset ?_
  | with_reducible refine ed_rg1 ?_
  | with_reducible refine ed_rg2 ?_
  | with_reducible refine ed_call ?_
  | with_reducible refine ed_tup ?_
  | with_reducible refine ed_lst ?_
  | with_reducible refine ed_andV ?_
  | with_reducible refine ed_orV ?_
  | with_reducible refine ed_notV ?_
  | with_reducible refine ed_chain ?_
  | with_reducible refine ed_if ?_
  | with_reducible refine ed_un ?_
  | with_reducible refine ed_sl ?_
  | with_reducible refine ed_revL ?_
  | with_reducible refine ed_m1 ?_
  | with_reducible refine eo_no ?_
  | with_reducible refine eo_some ?_
  | with_reducible refine et_test ?_
  | with_reducible refine et_B ?_
  | with_reducible refine et_and ?_
  | with_reducible refine et_or ?_
  | with_reducible refine et_not ?_
  | with_reducible refine et_yes ?_
  | with_reducible refine sb_start (Nat.le_of_ble_eq_true rfl) (fun M' => ?_)
  | with_reducible refine sd_seq ?_
  | with_reducible refine ep_cons ?_
  | with_reducible refine ep_nil ?_
  | with_reducible refine sd_next ?_
  | with_reducible refine sd_set ?_
  | with_reducible refine sd_ret ?_
  | with_reducible refine sd_drop ?_
  | with_reducible refine sd_if ?_
  | with_reducible refine sd_par ?_
  | with_reducible refine sd_par3 ?_
  | with_reducible refine rd_addI ?_
  | with_reducible refine rd_subI ?_
  | with_reducible refine rd_ltI ?_
  | with_reducible refine rd_leI ?_
  | with_reducible refine rd_gtI ?_
  | with_reducible refine rd_geI ?_
  | with_reducible refine rd_isNo ?_
  | with_reducible refine rd_notNo ?_
  | with_reducible refine cd_lenL ?_
  | with_reducible refine cd_lenT ?_
  | with_reducible refine cd_abs ?_
  | with_reducible refine cd_intI ?_
  | with_reducible refine cd_intB ?_
  | with_reducible refine cd_strS ?_
  | with_reducible refine cd_listT ?_
  | with_reducible refine cd_tupleL ?_
  | with_reducible refine sd_L ?_
  | with_reducible refine sd_T ?_
  | with_reducible refine gd_name ?_
  | ((with_reducible refine' ed_lcL1y ?hv ?_); (case hv => exact rfl))
  | ((with_reducible refine' ed_lcT1y ?hv ?_); (case hv => exact rfl))
  | ((with_reducible refine' ed_lcL1 ?hv ?_); (case hv => exact rfl))
  | ((with_reducible refine' ed_lcT1 ?hv ?_); (case hv => exact rfl))
  | with_reducible refine exB ?_
  | with_reducible refine exI ?_
  | with_reducible refine exS ?_
  | with_reducible refine exL ?_
  | with_reducible refine exT ?_
  | with_reducible refine exLs ?_
  | with_reducible refine exIs ?_
  | with_reducible refine ex2 ?_
  | with_reducible refine ex3 ?_
  | with_reducible refine ln0 ?_
  | with_reducible refine ln1 ?_
  | with_reducible refine ln2 ?_
  | with_reducible refine ln3 ?_
  | with_reducible refine ln4 ?_
  | with_reducible refine ln5 ?_
  | with_reducible refine ln6 ?_
  | with_reducible refine ln7 ?_
  | with_reducible refine ln8 ?_
  | with_reducible refine ln9 ?_
  | with_reducible refine ln10 ?_
  | with_reducible refine ln11 ?_
  | with_reducible refine ln12 ?_
  | with_reducible refine cTT ?_
  | with_reducible refine cFT ?_
  | with_reducible refine cTF ?_
  | with_reducible refine cFF ?_
  | with_reducible refine nTT ?_
  | with_reducible refine nFT ?_
  | with_reducible refine nTF ?_
  | with_reducible refine nFF ?_
  | refine rd_ixT0 ?_
  | refine rd_ixL0 ?_
  | refine rd_ixT rfl ?_
  | refine rd_ixL rfl ?_)
local macro_rules | `(tactic| walk_at "dl") => `(tactic| repeat (walk_at "dl1"))
local macro_rules | `(tactic| walk_at "call1") => `(tactic| ((refine ⟨_, rfl, ?hcd, fun r hr => ?hcr⟩); (case hcd => first | assumption | rfl); (case hcr => (subst hr; try walk_at "dl"))))
local macro_rules | `(tactic| walk_at "and") => `(tactic| (refine ed_andE ?_; try walk_at "dl"))
local macro_rules | `(tactic| walk_at "k") => `(tactic| ((first | refine ct rfl ?_ | refine cf rfl ?_ | refine ct' rfl ?_ | refine cf' rfl ?_); try walk_at "dl"))
theorem row_pl {n : Nat} {p : Pl} (h : GenPl n p) : rowOf n (lineD p) = some (.pl p) := by
  obtain ⟨w, r⟩ := p
  have hk := h.word
  have hc := kw_clean w hk
  have hs : Txt.split (lineD (w, r)) " " = w :: r.map lineW := split_words (ws := w :: r.map lineW) (by simp) fun x hx => by
    rcases List.mem_cons.mp hx with rfl | hx
    · exact hc.1
    · obtain ⟨y, hy, rfl⟩ := List.mem_map.mp hx
      exact (part_clean (h.parts y hy)).1
  have hr : (r.map lineW).map intOf = r := by
    rw [List.map_map]
    exact (List.map_congr_left fun y hy => (part_clean (h.parts y hy)).2).trans (List.map_id r)
  have hwl : Txt.split "else" " " = ([("else" : PySem.Str)] : List PySem.Str) := by decide +kernel
  have hwe : Txt.split "end" " " = ([("end" : PySem.Str)] : List PySem.Str) := by decide +kernel
  have n1 : ¬ lineD (w, r) = "else" := fun e => by rw [e, hwl] at hs; exact hc.2.1 (List.cons.inj hs).1.symm
  have n2 : ¬ lineD (w, r) = "end" := fun e => by rw [e, hwe] at hs; exact hc.2.2 (List.cons.inj hs).1.symm
  unfold rowOf
  rw [if_neg n1, if_neg n2]
  show stepW n (Txt.split (lineD (w, r)) " ") = _
  rw [hs]
  have e2 : stepW n (w :: r.map lineW) = (match intOf w with
    | .str u => if step0 n (.str u :: (r.map lineW).map intOf) = true then some (Row.pl (u, (r.map lineW).map intOf)) else none
    | _ => none) := if_neg h.good.noif
  refine e2.trans ?_
  rw [kw_str w hk, hr]
  have e3 : step0 n (.str w :: r) = plainD n w r := if_neg h.good.noif
  show (if step0 n (.str w :: r) = true then _ else _) = _
  rw [e3, if_pos h.good.ok]
end CL
set_option Elab.async false
set_option linter.all false
set_option maxRecDepth 100000
set_option maxHeartbeats 2000000
namespace CL
open PySem L2 DL
local macro_rules | `(tactic| walk_at "dl1") => `(tactic| first
  | ((with_reducible refine' ed_var ?hv ?_); (case hv => exact rfl))
  | with_reducible refine ed_int ?_
  | with_reducible refine ed_str ?_
  | with_reducible refine ed_bl ?_
  | with_reducible refine ed_non ?_
  | ((with_reducible refine' ed_jar0 ?hj ?_); (case hj => exact rfl); intro x hx)
  | ((with_reducible refine' ed_jar1 ?hj ?_); (case hj => exact rfl); intro x hx hx2)
  | ((with_reducible refine' ed_callJ ?hj ?_); (case hj => exact rfl))
  | ((with_reducible refine' sd_lapp ?hi ?_); (case hi => exact Nat.le_of_ble_eq_true rfl))
  | ((with_reducible refine' sd_jset0 ?hj ?_); (case hj => exact rfl))
  | ((with_reducible refine' sd_jset1 ?hj ?_); (case hj => exact rfl))
  | with_reducible refine ed_op ?_
  | with_reducible refine ea_cons ?_
  | with_reducible refine ea_nil ?_
  | with_reducible refine ed_isi ?_
  | with_reducible refine ed_cb ?_
  | with_reducible refine ed_zip ?_
  | with_reducible refine ed_sset ?_
  | with_reducible refine ed_rg1 ?_
  | with_reducible refine ed_rg2 ?_
  | with_reducible refine ed_call ?_
  | with_reducible refine ed_tup ?_
  | with_reducible refine ed_lst ?_
  | with_reducible refine ed_andV ?_
  | with_reducible refine ed_orV ?_
  | with_reducible refine ed_notV ?_
  | with_reducible refine ed_chain ?_
  | with_reducible refine ed_if ?_
  | with_reducible refine ed_un ?_
  | with_reducible refine ed_sl ?_
  | with_reducible refine ed_revL ?_
  | with_reducible refine ed_m1 ?_
  | with_reducible refine eo_no ?_
  | with_reducible refine eo_some ?_
  | with_reducible refine et_test ?_
  | with_reducible refine et_B ?_
  | with_reducible refine et_and ?_
  | with_reducible refine et_or ?_
  | with_reducible refine et_not ?_
  | with_reducible refine et_yes ?_
  | with_reducible refine sb_start (Nat.le_of_ble_eq_true rfl) (fun M' => ?_)
  | with_reducible refine sd_seq ?_
  | with_reducible refine ep_cons ?_
  | with_reducible refine ep_nil ?_
  | with_reducible refine sd_next ?_
  | with_reducible refine sd_set ?_
  | with_reducible refine sd_ret ?_
  | with_reducible refine sd_drop ?_
  | with_reducible refine sd_if ?_
  | with_reducible refine sd_par ?_
  | with_reducible refine sd_par3 ?_
  | with_reducible refine rd_addI ?_
  | with_reducible refine rd_subI ?_
  | with_reducible refine rd_ltI ?_
  | with_reducible refine rd_leI ?_
  | with_reducible refine rd_gtI ?_
  | with_reducible refine rd_geI ?_
  | with_reducible refine rd_isNo ?_
  | with_reducible refine rd_notNo ?_
  | with_reducible refine cd_lenL ?_
  | with_reducible refine cd_lenT ?_
  | with_reducible refine cd_abs ?_
  | with_reducible refine cd_intI ?_
  | with_reducible refine cd_intB ?_
  | with_reducible refine cd_strS ?_
  | with_reducible refine cd_listT ?_
  | with_reducible refine cd_tupleL ?_
  | with_reducible refine sd_L ?_
  | with_reducible refine sd_T ?_
  | with_reducible refine gd_name ?_
  | ((with_reducible refine' ed_lcL1y ?hv ?_); (case hv => exact rfl))
  | ((with_reducible refine' ed_lcT1y ?hv ?_); (case hv => exact rfl))
  | ((with_reducible refine' ed_lcL1 ?hv ?_); (case hv => exact rfl))
  | ((with_reducible refine' ed_lcT1 ?hv ?_); (case hv => exact rfl))
  | with_reducible refine exB ?_
  | with_reducible refine exI ?_
  | with_reducible refine exS ?_
  | with_reducible refine exL ?_
  | with_reducible refine exT ?_
  | with_reducible refine exLs ?_
  | with_reducible refine exIs ?_
  | with_reducible refine ex2 ?_
  | with_reducible refine ex3 ?_
  | with_reducible refine ln0 ?_
  | with_reducible refine ln1 ?_
  | with_reducible refine ln2 ?_
  | with_reducible refine ln3 ?_
  | with_reducible refine ln4 ?_
  | with_reducible refine ln5 ?_
  | with_reducible refine ln6 ?_
  | with_reducible refine ln7 ?_
  | with_reducible refine ln8 ?_
  | with_reducible refine ln9 ?_
  | with_reducible refine ln10 ?_
  | with_reducible refine ln11 ?_
  | with_reducible refine ln12 ?_
  | with_reducible refine cTT ?_
  | with_reducible refine cFT ?_
  | with_reducible refine cTF ?_
  | with_reducible refine cFF ?_
  | with_reducible refine nTT ?_
  | with_reducible refine nFT ?_
  | with_reducible refine nTF ?_
  | with_reducible refine nFF ?_
  | refine rd_ixT0 ?_
  | refine rd_ixL0 ?_
  | refine rd_ixT rfl ?_
  | refine rd_ixL rfl ?_)
local macro_rules | `(tactic| walk_at "dl") => `(tactic| repeat (walk_at "dl1"))
local macro_rules | `(tactic| walk_at "call1") => `(tactic| ((refine ⟨_, rfl, ?hcd, fun r hr => ?hcr⟩); (case hcd => first | assumption | rfl); (case hcr => (subst hr; try walk_at "dl"))))
local macro_rules | `(tactic| walk_at "and") => `(tactic| (refine ed_andE ?_; try walk_at "dl"))
local macro_rules | `(tactic| walk_at "k") => `(tactic| ((first | refine ct rfl ?_ | refine cf rfl ?_ | refine ct' rfl ?_ | refine cf' rfl ?_); try walk_at "dl"))
theorem row_hd {n : Nat} {a b w : PySem.Str} (ha : a ∈ ABCD) (hb : b ∈ ABCD) (hw : w ∈ SEENS) : rowOf n (Txt.join " " ["if", a, b, w]) = some (.hd a b w) := by
  have hs : Txt.split (Txt.join " " ["if", a, b, w]) " " = (["if", a, b, w] : List PySem.Str) := split_words (by simp) fun x hx => by
    simp only [List.mem_cons, List.not_mem_nil, or_false] at hx
    rcases hx with rfl | rfl | rfl | rfl
    · decide +kernel
    · exact (by decide +kernel : ∀ x ∈ ABCD, cleanW x = true) _ ha
    · exact (by decide +kernel : ∀ x ∈ ABCD, cleanW x = true) _ hb
    · exact (by decide +kernel : ∀ x ∈ SEENS, cleanW x = true) _ hw
  have hwl : Txt.split "else" " " = ([("else" : PySem.Str)] : List PySem.Str) := by decide +kernel
  have hwe : Txt.split "end" " " = ([("end" : PySem.Str)] : List PySem.Str) := by decide +kernel
  have n1 : ¬ Txt.join " " ["if", a, b, w] = "else" := fun e => by rw [e, hwl] at hs; exact absurd (List.cons.inj hs).1 (by decide +kernel)
  have n2 : ¬ Txt.join " " ["if", a, b, w] = "end" := fun e => by rw [e, hwe] at hs; exact absurd (List.cons.inj hs).1 (by decide +kernel)
  unfold rowOf
  rw [if_neg n1, if_neg n2]
  show stepW n (Txt.split (Txt.join " " ["if", a, b, w]) " ") = _
  rw [hs, stepW_if rfl]
  have nm : ∀ x ∈ ABCD, x ∈ NMS := by decide +kernel
  exact if_pos ⟨nm a ha, nm b hb, hw⟩
end CL
set_option Elab.async false
set_option linter.all false
set_option maxRecDepth 100000
set_option maxHeartbeats 2000000
namespace CL
open PySem L2 DL
local macro_rules | `(tactic| walk_at "dl1") => `(tactic| first
  | ((with_reducible refine' ed_var ?hv ?_); (case hv => exact rfl))
  | with_reducible refine ed_int ?_
  | with_reducible refine ed_str ?_
  | with_reducible refine ed_bl ?_
  | with_reducible refine ed_non ?_
  | ((with_reducible refine' ed_jar0 ?hj ?_); (case hj => exact rfl); intro x hx)
  | ((with_reducible refine' ed_jar1 ?hj ?_); (case hj => exact rfl); intro x hx hx2)
  | ((with_reducible refine' ed_callJ ?hj ?_); (case hj => exact rfl))
  | ((with_reducible refine' sd_lapp ?hi ?_); (case hi => exact Nat.le_of_ble_eq_true rfl))
  | ((with_reducible refine' sd_jset0 ?hj ?_); (case hj => exact rfl))
  | ((with_reducible refine' sd_jset1 ?hj ?_); (case hj => exact rfl))
  | with_reducible refine ed_op ?_
  | with_reducible refine ea_cons ?_
  | with_reducible refine ea_nil ?_
  | with_reducible refine ed_isi ?_
  | with_reducible refine ed_cb ?_
  | with_reducible refine ed_zip ?_
  | with_reducible refine ed_sset ?_
  | with_reducible refine ed_rg1 ?_
  | with_reducible refine ed_rg2 ?_
  | with_reducible refine ed_call ?_
  | with_reducible refine ed_tup ?_
  | with_reducible refine ed_lst ?_
  | with_reducible refine ed_andV ?_
  | with_reducible refine ed_orV ?_
  | with_reducible refine ed_notV ?_
  | with_reducible refine ed_chain ?_
  | with_reducible refine ed_if ?_
  | with_reducible refine ed_un ?_
  | with_reducible refine ed_sl ?_
  | with_reducible refine ed_revL ?_
  | with_reducible refine ed_m1 ?_
  | with_reducible refine eo_no ?_
  | with_reducible refine eo_some ?_
  | with_reducible refine et_test ?_
  | with_reducible refine et_B ?_
  | with_reducible refine et_and ?_
  | with_reducible refine et_or ?_
  | with_reducible refine et_not ?_
  | with_reducible refine et_yes ?_
  | with_reducible refine sb_start (Nat.le_of_ble_eq_true rfl) (fun M' => ?_)
  | with_reducible refine sd_seq ?_
  | with_reducible refine ep_cons ?_
  | with_reducible refine ep_nil ?_
  | with_reducible refine sd_next ?_
  | with_reducible refine sd_set ?_
  | with_reducible refine sd_ret ?_
  | with_reducible refine sd_drop ?_
  | with_reducible refine sd_if ?_
  | with_reducible refine sd_par ?_
  | with_reducible refine sd_par3 ?_
  | with_reducible refine rd_addI ?_
  | with_reducible refine rd_subI ?_
  | with_reducible refine rd_ltI ?_
  | with_reducible refine rd_leI ?_
  | with_reducible refine rd_gtI ?_
  | with_reducible refine rd_geI ?_
  | with_reducible refine rd_isNo ?_
  | with_reducible refine rd_notNo ?_
  | with_reducible refine cd_lenL ?_
  | with_reducible refine cd_lenT ?_
  | with_reducible refine cd_abs ?_
  | with_reducible refine cd_intI ?_
  | with_reducible refine cd_intB ?_
  | with_reducible refine cd_strS ?_
  | with_reducible refine cd_listT ?_
  | with_reducible refine cd_tupleL ?_
  | with_reducible refine sd_L ?_
  | with_reducible refine sd_T ?_
  | with_reducible refine gd_name ?_
  | ((with_reducible refine' ed_lcL1y ?hv ?_); (case hv => exact rfl))
  | ((with_reducible refine' ed_lcT1y ?hv ?_); (case hv => exact rfl))
  | ((with_reducible refine' ed_lcL1 ?hv ?_); (case hv => exact rfl))
  | ((with_reducible refine' ed_lcT1 ?hv ?_); (case hv => exact rfl))
  | with_reducible refine exB ?_
  | with_reducible refine exI ?_
  | with_reducible refine exS ?_
  | with_reducible refine exL ?_
  | with_reducible refine exT ?_
  | with_reducible refine exLs ?_
  | with_reducible refine exIs ?_
  | with_reducible refine ex2 ?_
  | with_reducible refine ex3 ?_
  | with_reducible refine ln0 ?_
  | with_reducible refine ln1 ?_
  | with_reducible refine ln2 ?_
  | with_reducible refine ln3 ?_
  | with_reducible refine ln4 ?_
  | with_reducible refine ln5 ?_
  | with_reducible refine ln6 ?_
  | with_reducible refine ln7 ?_
  | with_reducible refine ln8 ?_
  | with_reducible refine ln9 ?_
  | with_reducible refine ln10 ?_
  | with_reducible refine ln11 ?_
  | with_reducible refine ln12 ?_
  | with_reducible refine cTT ?_
  | with_reducible refine cFT ?_
  | with_reducible refine cTF ?_
  | with_reducible refine cFF ?_
  | with_reducible refine nTT ?_
  | with_reducible refine nFT ?_
  | with_reducible refine nTF ?_
  | with_reducible refine nFF ?_
  | refine rd_ixT0 ?_
  | refine rd_ixL0 ?_
  | refine rd_ixT rfl ?_
  | refine rd_ixL rfl ?_)
local macro_rules | `(tactic| walk_at "dl") => `(tactic| repeat (walk_at "dl1"))
local macro_rules | `(tactic| walk_at "call1") => `(tactic| ((refine ⟨_, rfl, ?hcd, fun r hr => ?hcr⟩); (case hcd => first | assumption | rfl); (case hcr => (subst hr; try walk_at "dl"))))
local macro_rules | `(tactic| walk_at "and") => `(tactic| (refine ed_andE ?_; try walk_at "dl"))
local macro_rules | `(tactic| walk_at "k") => `(tactic| ((first | refine ct rfl ?_ | refine cf rfl ?_ | refine ct' rfl ?_ | refine cf' rfl ?_); try walk_at "dl"))
theorem hca_gen (n : Nat) : GenPl n HCA := gen_of (w := "half") (x := "c") (r := [.str "a"]) (by decide +kernel) (by decide +kernel) (fun y hy => by
  have : y = .str "a" := by simpa using hy
  subst this
  exact .inl ⟨_, rfl, by decide +kernel⟩) (by simp) (by
  rw [pd_hh _ _ (by decide +kernel)]
  show (nameD (.str "c") && nameD (.str "a")) = true
  decide +kernel)
theorem rows_gen {n : Nat} {ss : List Stp} (h : ∀ s ∈ ss, GenStp n s) : ∀ r ∈ rowsAll ss, rowOf n r.line = some r := fun r hr => by
  obtain ⟨s, hs, hr⟩ := List.mem_flatMap.mp hr
  have g := h s hs
  cases s with
  | pl p =>
    have : r = .pl p := by simpa [Stp.rows] using hr
    subst this
    exact row_pl g
  | iff a b w b1 b2 =>
    obtain ⟨ha, hb, hw, ⟨q, rfl, gq, _⟩, h2⟩ := g
    have hca : rowOf n (lineD HCA) = some (.pl HCA) := row_pl (hca_gen n)
    have hr : r = .hd a b w ∨ r = .pl q ∨ r = .els ∨ (∃ p ∈ b2, r = .pl p) ∨ r = .en := by
      have hr : r ∈ [Row.hd a b w] ++ [q].map Row.pl ++ [Row.els] ++ b2.map Row.pl ++ [Row.en] := hr
      simp only [List.mem_append, List.mem_singleton, List.map_cons, List.map_nil, List.mem_map] at hr
      rcases hr with (((h | h) | h) | ⟨p, h, e⟩) | h
      · exact .inl h
      · exact .inr (.inl h)
      · exact .inr (.inr (.inl h))
      · exact .inr (.inr (.inr (.inl ⟨p, h, e.symm⟩)))
      · exact .inr (.inr (.inr (.inr h)))
    rcases hr with rfl | rfl | rfl | ⟨p, hp, rfl⟩ | rfl
    · exact row_hd ha hb hw
    · exact row_pl gq
    · exact if_pos rfl
    · rcases h2 with rfl | rfl
      · simp at hp
      · have : p = HCA := by simpa using hp
        subst this
        exact hca
    · show (if _ then _ else _) = _
      rw [if_neg (by show ¬ ("end" : PySem.Str) = "else"; decide +kernel)]
      exact if_pos rfl
end CL
set_option Elab.async false
set_option linter.all false
set_option maxRecDepth 100000
set_option maxHeartbeats 2000000
namespace CL
open PySem L2 DL
local macro_rules | `(tactic| walk_at "dl1") => `(tactic| first
  | ((with_reducible refine' ed_var ?hv ?_); (case hv => exact rfl))
  | with_reducible refine ed_int ?_
  | with_reducible refine ed_str ?_
  | with_reducible refine ed_bl ?_
  | with_reducible refine ed_non ?_
  | ((with_reducible refine' ed_jar0 ?hj ?_); (case hj => exact rfl); intro x hx)
  | ((with_reducible refine' ed_jar1 ?hj ?_); (case hj => exact rfl); intro x hx hx2)
  | ((with_reducible refine' ed_callJ ?hj ?_); (case hj => exact rfl))
  | ((with_reducible refine' sd_lapp ?hi ?_); (case hi => exact Nat.le_of_ble_eq_true rfl))
  | ((with_reducible refine' sd_jset0 ?hj ?_); (case hj => exact rfl))
  | ((with_reducible refine' sd_jset1 ?hj ?_); (case hj => exact rfl))
  | with_reducible refine ed_op ?_
  | with_reducible refine ea_cons ?_
  | with_reducible refine ea_nil ?_
  | with_reducible refine ed_isi ?_
  | with_reducible refine ed_cb ?_
  | with_reducible refine ed_zip ?_
  | with_reducible refine ed_sset ?_
  | with_reducible refine ed_rg1 ?_
  | with_reducible refine ed_rg2 ?_
  | with_reducible refine ed_call ?_
  | with_reducible refine ed_tup ?_
  | with_reducible refine ed_lst ?_
  | with_reducible refine ed_andV ?_
  | with_reducible refine ed_orV ?_
  | with_reducible refine ed_notV ?_
  | with_reducible refine ed_chain ?_
  | with_reducible refine ed_if ?_
  | with_reducible refine ed_un ?_
  | with_reducible refine ed_sl ?_
  | with_reducible refine ed_revL ?_
  | with_reducible refine ed_m1 ?_
  | with_reducible refine eo_no ?_
  | with_reducible refine eo_some ?_
  | with_reducible refine et_test ?_
  | with_reducible refine et_B ?_
  | with_reducible refine et_and ?_
  | with_reducible refine et_or ?_
  | with_reducible refine et_not ?_
  | with_reducible refine et_yes ?_
  | with_reducible refine sb_start (Nat.le_of_ble_eq_true rfl) (fun M' => ?_)
  | with_reducible refine sd_seq ?_
  | with_reducible refine ep_cons ?_
  | with_reducible refine ep_nil ?_
  | with_reducible refine sd_next ?_
  | with_reducible refine sd_set ?_
  | with_reducible refine sd_ret ?_
  | with_reducible refine sd_drop ?_
  | with_reducible refine sd_if ?_
  | with_reducible refine sd_par ?_
  | with_reducible refine sd_par3 ?_
  | with_reducible refine rd_addI ?_
  | with_reducible refine rd_subI ?_
  | with_reducible refine rd_ltI ?_
  | with_reducible refine rd_leI ?_
  | with_reducible refine rd_gtI ?_
  | with_reducible refine rd_geI ?_
  | with_reducible refine rd_isNo ?_
  | with_reducible refine rd_notNo ?_
  | with_reducible refine cd_lenL ?_
  | with_reducible refine cd_lenT ?_
  | with_reducible refine cd_abs ?_
  | with_reducible refine cd_intI ?_
  | with_reducible refine cd_intB ?_
  | with_reducible refine cd_strS ?_
  | with_reducible refine cd_listT ?_
  | with_reducible refine cd_tupleL ?_
  | with_reducible refine sd_L ?_
  | with_reducible refine sd_T ?_
  | with_reducible refine gd_name ?_
  | ((with_reducible refine' ed_lcL1y ?hv ?_); (case hv => exact rfl))
  | ((with_reducible refine' ed_lcT1y ?hv ?_); (case hv => exact rfl))
  | ((with_reducible refine' ed_lcL1 ?hv ?_); (case hv => exact rfl))
  | ((with_reducible refine' ed_lcT1 ?hv ?_); (case hv => exact rfl))
  | with_reducible refine exB ?_
  | with_reducible refine exI ?_
  | with_reducible refine exS ?_
  | with_reducible refine exL ?_
  | with_reducible refine exT ?_
  | with_reducible refine exLs ?_
  | with_reducible refine exIs ?_
  | with_reducible refine ex2 ?_
  | with_reducible refine ex3 ?_
  | with_reducible refine ln0 ?_
  | with_reducible refine ln1 ?_
  | with_reducible refine ln2 ?_
  | with_reducible refine ln3 ?_
  | with_reducible refine ln4 ?_
  | with_reducible refine ln5 ?_
  | with_reducible refine ln6 ?_
  | with_reducible refine ln7 ?_
  | with_reducible refine ln8 ?_
  | with_reducible refine ln9 ?_
  | with_reducible refine ln10 ?_
  | with_reducible refine ln11 ?_
  | with_reducible refine ln12 ?_
  | with_reducible refine cTT ?_
  | with_reducible refine cFT ?_
  | with_reducible refine cTF ?_
  | with_reducible refine cFF ?_
  | with_reducible refine nTT ?_
  | with_reducible refine nFT ?_
  | with_reducible refine nTF ?_
  | with_reducible refine nFF ?_
  | refine rd_ixT0 ?_
  | refine rd_ixL0 ?_
  | refine rd_ixT rfl ?_
  | refine rd_ixL rfl ?_)
local macro_rules | `(tactic| walk_at "dl") => `(tactic| repeat (walk_at "dl1"))
local macro_rules | `(tactic| walk_at "call1") => `(tactic| ((refine ⟨_, rfl, ?hcd, fun r hr => ?hcr⟩); (case hcd => first | assumption | rfl); (case hcr => (subst hr; try walk_at "dl"))))
local macro_rules | `(tactic| walk_at "and") => `(tactic| (refine ed_andE ?_; try walk_at "dl"))
local macro_rules | `(tactic| walk_at "k") => `(tactic| ((first | refine ct rfl ?_ | refine cf rfl ?_ | refine ct' rfl ?_ | refine cf' rfl ?_); try walk_at "dl"))
theorem joinL_no {c : Nat} {S : List Nat} (hS : c ∉ S) : ∀ {ps : List (List Nat)}, (∀ p ∈ ps, c ∉ p) → c ∉ TL.joinL S ps
  | [], _ => by simp [TL.joinL]
  | [p], h => by simpa [TL.joinL] using h
  | p :: q :: r, h => by
    show c ∉ p ++ (S ++ TL.joinL S (q :: r))
    rw [List.mem_append, List.mem_append]
    rintro (z | z | z)
    · exact h p (by simp) z
    · exact hS z
    · exact joinL_no hS (ps := q :: r) (fun x hx => h x (List.mem_cons_of_mem _ hx)) z
theorem join_nl {ws : List PySem.Str} (h : ∀ w ∈ ws, cleanW w = true) : 10 ∉ TL.tl (Txt.join " " ws) := by
  rw [TL.join_eq, TL.tl_join, sp_tl]
  refine joinL_no (by decide) fun p hp => ?_
  obtain ⟨w, hw, rfl⟩ := List.mem_map.mp hp
  exact clean_nl (h w hw)
theorem pl_nl {n : Nat} {p : Pl} (h : GenPl n p) : 10 ∉ TL.tl (lineD p) := join_nl fun x hx => by
  obtain ⟨y, hy, rfl⟩ := List.mem_map.mp hx
  rcases List.mem_cons.mp hy with rfl | hy
  · exact (kw_clean _ h.word).1
  · exact (part_clean (h.parts y hy)).1
theorem lines_nl {n : Nat} {ss : List Stp} (h : ∀ s ∈ ss, GenStp n s) : ∀ l ∈ linesAll ss, 10 ∉ TL.tl l := fun l hl => by
  obtain ⟨s, hs, hl⟩ := List.mem_flatMap.mp hl
  have g := h s hs
  cases s with
  | pl p =>
    have : l = lineD p := by simpa [Stp.lines] using hl
    subst this
    exact pl_nl g
  | iff a b w b1 b2 =>
    obtain ⟨ha, hb, hw, ⟨q, rfl, gq, _⟩, h2⟩ := g
    have hl : l ∈ ([Txt.join " " ["if", a, b, w]] : List PySem.Str) ++ linesP [q] ++ (["else"] : List PySem.Str) ++ linesP b2 ++ (["end"] : List PySem.Str) := hl
    simp only [List.mem_append, List.mem_singleton, linesP, List.map_cons, List.map_nil, List.mem_map] at hl
    rcases hl with (((h | h) | h) | ⟨p, h, e⟩) | h
    · subst h
      refine join_nl fun x hx => ?_
      simp only [List.mem_cons, List.not_mem_nil, or_false] at hx
      rcases hx with rfl | rfl | rfl | rfl
      · decide +kernel
      · exact (by decide +kernel : ∀ x ∈ ABCD, cleanW x = true) _ ha
      · exact (by decide +kernel : ∀ x ∈ ABCD, cleanW x = true) _ hb
      · exact (by decide +kernel : ∀ x ∈ SEENS, cleanW x = true) _ hw
    · subst h; exact pl_nl gq
    · subst h; decide +kernel
    · subst e
      rcases h2 with rfl | rfl
      · simp at h
      · have : p = HCA := by simpa using h
        subst this
        exact pl_nl (hca_gen n)
    · subst h; decide +kernel
theorem rows_back {n : Nat} : ∀ {rs : List Row}, (∀ r ∈ rs, rowOf n r.line = some r) → (rs.map Row.line).filterMap (rowOf n) = rs
  | [], _ => rfl
  | r :: rs, h => by
    rw [List.map_cons, List.filterMap_cons, h r (by simp)]
    show r :: _ = _
    rw [rows_back fun x hx => h x (by simp [hx])]
theorem row_ne {n : Nat} {r : Row} (h : rowOf n r.line = some r) (hk : ∀ p, r = .pl p → p.1 ∈ KINDS) : ¬ r.line = "" := fun e => by
  have hw := (rowOf_line h).2
  rw [e] at hw
  have e0 : wd0 "" = "" := by decide +kernel
  rw [e0] at hw
  cases r with
  | els => exact absurd hw (by show ¬ ("" : PySem.Str) = "else"; decide +kernel)
  | en => exact absurd hw (by show ¬ ("" : PySem.Str) = "end"; decide +kernel)
  | hd a b w => exact absurd hw (by show ¬ ("" : PySem.Str) = "if"; decide +kernel)
  | pl p =>
    have hw : ("" : PySem.Str) = p.1 := hw
    have := hk p rfl
    rw [← hw] at this
    exact absurd this (by decide +kernel)
theorem text_lines {n : Nat} {ss : List Stp} (h : ∀ s ∈ ss, GenStp n s) : textLines (textOf ss) = linesAll ss := by
  have hr := rows_gen h
  have hl := rowsAll_lines ss
  cases hn : linesAll ss with
  | nil =>
    unfold textLines textOf
    rw [hn]
    exact if_pos (by decide +kernel)
  | cons l ls =>
    have hs : Txt.split (textOf ss) "\n" = linesAll ss := TL.split_join (y := "\n") (s := 10) (S := []) nl_tl nl_all (by rw [hn]; simp) (lines_nl h)
    rw [← hn, ← hs]
    refine if_neg fun e => ?_
    rw [e] at hs
    have e0 : Txt.split "" "\n" = ([""] : List PySem.Str) := by decide +kernel
    rw [e0, ← hl] at hs
    cases hrs : rowsAll ss with
    | nil => rw [hrs] at hs; cases hs
    | cons r rs =>
      rw [hrs] at hs hr
      refine row_ne (hr r (by simp)) (fun p hp => ?_) (List.cons.inj hs).1.symm
      have := rowOf_good (hr r (by simp))
      subst hp
      exact kw_of (GoodPl.ok this)
theorem none_find {n : Nat} {rs : List Row} (h : ∀ r ∈ rs, rowOf n r.line = some r) : (rs.map Row.line).findIdx? (fun l => (rowOf n l).isNone) = none := by
  rw [List.findIdx?_eq_none_iff]
  intro l hl
  obtain ⟨r, hr, rfl⟩ := List.mem_map.mp hl
  rw [h r hr]
  rfl
theorem rd_gen {n : Nat} {ss : List Stp} (h : ∀ s ∈ ss, GenStp n s) (hok : scriptOk ss = true) : rdText n (.str (textOf ss)) = .ok ss := by
  show rdLines n (textLines (textOf ss)) = _
  rw [text_lines h, ← rowsAll_lines]
  unfold rdLines
  rw [none_find (rows_gen h)]
  dsimp only
  rw [rows_back (rows_gen h)]
  unfold rdRows
  rw [ptAll_rows]
  dsimp only
  rw [if_pos hok]
end CL
set_option Elab.async false
set_option linter.all false
set_option maxRecDepth 100000
set_option maxHeartbeats 2000000
namespace CL
open PySem L2 DL
local macro_rules | `(tactic| walk_at "dl1") => `(tactic| first
  | ((with_reducible refine' ed_var ?hv ?_); (case hv => exact rfl))
  | with_reducible refine ed_int ?_
  | with_reducible refine ed_str ?_
  | with_reducible refine ed_bl ?_
  | with_reducible refine ed_non ?_
  | ((with_reducible refine' ed_jar0 ?hj ?_); (case hj => exact rfl); intro x hx)
  | ((with_reducible refine' ed_jar1 ?hj ?_); (case hj => exact rfl); intro x hx hx2)
  | ((with_reducible refine' ed_callJ ?hj ?_); (case hj => exact rfl))
  | ((with_reducible refine' sd_lapp ?hi ?_); (case hi => exact Nat.le_of_ble_eq_true rfl))
  | ((with_reducible refine' sd_jset0 ?hj ?_); (case hj => exact rfl))
  | ((with_reducible refine' sd_jset1 ?hj ?_); (case hj => exact rfl))
  | with_reducible refine ed_op ?_
  | with_reducible refine ea_cons ?_
  | with_reducible refine ea_nil ?_
  | with_reducible refine ed_isi ?_
  | with_reducible refine ed_cb ?_
  | with_reducible refine ed_zip ?_
  | with_reducible refine ed_sset ?_
  | with_reducible refine ed_rg1 ?_
  | with_reducible refine ed_rg2 ?_
  | with_reducible refine ed_call ?_
  | with_reducible refine ed_tup ?_
  | with_reducible refine ed_lst ?_
  | with_reducible refine ed_andV ?_
  | with_reducible refine ed_orV ?_
  | with_reducible refine ed_notV ?_
  | with_reducible refine ed_chain ?_
  | with_reducible refine ed_if ?_
  | with_reducible refine ed_un ?_
  | with_reducible refine ed_sl ?_
  | with_reducible refine ed_revL ?_
  | with_reducible refine ed_m1 ?_
  | with_reducible refine eo_no ?_
  | with_reducible refine eo_some ?_
  | with_reducible refine et_test ?_
  | with_reducible refine et_B ?_
  | with_reducible refine et_and ?_
  | with_reducible refine et_or ?_
  | with_reducible refine et_not ?_
  | with_reducible refine et_yes ?_
  | with_reducible refine sb_start (Nat.le_of_ble_eq_true rfl) (fun M' => ?_)
  | with_reducible refine sd_seq ?_
  | with_reducible refine ep_cons ?_
  | with_reducible refine ep_nil ?_
  | with_reducible refine sd_next ?_
  | with_reducible refine sd_set ?_
  | with_reducible refine sd_ret ?_
  | with_reducible refine sd_drop ?_
  | with_reducible refine sd_if ?_
  | with_reducible refine sd_par ?_
  | with_reducible refine sd_par3 ?_
  | with_reducible refine rd_addI ?_
  | with_reducible refine rd_subI ?_
  | with_reducible refine rd_ltI ?_
  | with_reducible refine rd_leI ?_
  | with_reducible refine rd_gtI ?_
  | with_reducible refine rd_geI ?_
  | with_reducible refine rd_isNo ?_
  | with_reducible refine rd_notNo ?_
  | with_reducible refine cd_lenL ?_
  | with_reducible refine cd_lenT ?_
  | with_reducible refine cd_abs ?_
  | with_reducible refine cd_intI ?_
  | with_reducible refine cd_intB ?_
  | with_reducible refine cd_strS ?_
  | with_reducible refine cd_listT ?_
  | with_reducible refine cd_tupleL ?_
  | with_reducible refine sd_L ?_
  | with_reducible refine sd_T ?_
  | with_reducible refine gd_name ?_
  | ((with_reducible refine' ed_lcL1y ?hv ?_); (case hv => exact rfl))
  | ((with_reducible refine' ed_lcT1y ?hv ?_); (case hv => exact rfl))
  | ((with_reducible refine' ed_lcL1 ?hv ?_); (case hv => exact rfl))
  | ((with_reducible refine' ed_lcT1 ?hv ?_); (case hv => exact rfl))
  | with_reducible refine exB ?_
  | with_reducible refine exI ?_
  | with_reducible refine exS ?_
  | with_reducible refine exL ?_
  | with_reducible refine exT ?_
  | with_reducible refine exLs ?_
  | with_reducible refine exIs ?_
  | with_reducible refine ex2 ?_
  | with_reducible refine ex3 ?_
  | with_reducible refine ln0 ?_
  | with_reducible refine ln1 ?_
  | with_reducible refine ln2 ?_
  | with_reducible refine ln3 ?_
  | with_reducible refine ln4 ?_
  | with_reducible refine ln5 ?_
  | with_reducible refine ln6 ?_
  | with_reducible refine ln7 ?_
  | with_reducible refine ln8 ?_
  | with_reducible refine ln9 ?_
  | with_reducible refine ln10 ?_
  | with_reducible refine ln11 ?_
  | with_reducible refine ln12 ?_
  | with_reducible refine cTT ?_
  | with_reducible refine cFT ?_
  | with_reducible refine cTF ?_
  | with_reducible refine cFF ?_
  | with_reducible refine nTT ?_
  | with_reducible refine nFT ?_
  | with_reducible refine nTF ?_
  | with_reducible refine nFF ?_
  | refine rd_ixT0 ?_
  | refine rd_ixL0 ?_
  | refine rd_ixT rfl ?_
  | refine rd_ixL rfl ?_)
local macro_rules | `(tactic| walk_at "dl") => `(tactic| repeat (walk_at "dl1"))
local macro_rules | `(tactic| walk_at "call1") => `(tactic| ((refine ⟨_, rfl, ?hcd, fun r hr => ?hcr⟩); (case hcd => first | assumption | rfl); (case hcr => (subst hr; try walk_at "dl"))))
local macro_rules | `(tactic| walk_at "and") => `(tactic| (refine ed_andE ?_; try walk_at "dl"))
local macro_rules | `(tactic| walk_at "k") => `(tactic| ((first | refine ct rfl ?_ | refine cf rfl ?_ | refine ct' rfl ?_ | refine cf' rfl ?_); try walk_at "dl"))
/-! ### the last of the plain law: a drawn script is good -/
theorem gs_good {n : Nat} {s : Stp} (h : GenStp n s) : GoodSt n s := by
  cases s with
  | pl p => exact GenPl.good h
  | iff a b w b1 b2 =>
    obtain ⟨ha, hb, hw, ⟨q, rfl, gq, _⟩, h2⟩ := h
    have nm : ∀ x ∈ ABCD, x ∈ NMS := by decide +kernel
    refine ⟨nm a ha, nm b hb, hw, ⟨by simp, fun s hs => ?_⟩, ?_⟩
    · rw [List.mem_singleton.mp hs]; exact gq.good
    · rcases h2 with rfl | rfl
      · exact ⟨by simp, fun s hs => by cases hs⟩
      · exact ⟨by simp, fun s hs => by rw [List.mem_singleton.mp hs]; exact (hca_gen n).good⟩
theorem gs_ok {n : Nat} {s : Stp} (h : GenStp n s) : s.ok = true := by
  cases s with
  | pl p => rfl
  | iff a b w b1 b2 =>
    obtain ⟨_, _, _, ⟨q, rfl, _, _⟩, h2⟩ := h
    rcases h2 with rfl | rfl <;> rfl
theorem gs_noread {n : Nat} {s : Stp} (h : GenStp n s) : (s.subs.map (·.1)).count ("read" : PySem.Str) = 0 := by
  cases s with
  | pl p => rfl
  | iff a b w b1 b2 =>
    obtain ⟨_, _, _, ⟨q, rfl, _, hq⟩, h2⟩ := h
    rw [List.count_eq_zero]
    intro hm
    obtain ⟨z, hz, e⟩ := List.mem_map.mp hm
    have hz : z ∈ [q] ++ b2 := hz
    rcases List.mem_append.mp hz with h | h
    · rw [List.mem_singleton.mp h] at e; exact hq e
    · rcases h2 with rfl | rfl
      · cases h
      · rw [List.mem_singleton.mp h] at e
        exact absurd e (by show ¬ ("half" : PySem.Str) = "read"; decide +kernel)
theorem allW_len : ∀ ss : List Stp, (allW ss).length = (allD ss).length
  | [] => rfl
  | s :: ss => by
    have ih := allW_len ss
    show ((s.hd :: s.subs.map (·.1)) ++ allW ss).length = ((s.d :: s.subs.map Pl.d) ++ allD ss).length
    simp [ih]
theorem allW_read {n : Nat} : ∀ {ss : List Stp}, (∀ s ∈ ss, GenStp n s) → (allW ss).count ("read" : PySem.Str) = (ss.map Stp.hd).count ("read" : PySem.Str)
  | [], _ => rfl
  | s :: ss, h => by
    have ih := allW_read (ss := ss) fun x hx => h x (by simp [hx])
    show ((s.hd :: s.subs.map (·.1)) ++ allW ss).count _ = (s.hd :: ss.map Stp.hd).count _
    rw [List.count_append, List.count_cons, List.count_cons, gs_noread (h s (by simp)), ih]
    omega
theorem pl_line {n : Nat} (hn : n ≤ 2) {p : Pl} (h : GoodPl n p) : (lineD p).length ≤ 21 := by
  obtain ⟨h1, h2⟩ := line_words (by omega) h
  have hc := join_cost (y := " ") (by rw [sp_tl]; simp) ((.str p.1 :: p.2).map lineW)
  unfold costL at hc
  have h3 : (PyData.str p.1 :: p.2).length = p.2.length + 1 := rfl
  rw [List.length_map, h3] at hc
  have h4 : (lineD p).length ≤ _ := hc
  omega
theorem hd_line {a b w : PySem.Str} (ha : a ∈ ABCD) (hb : b ∈ ABCD) (hw : w ∈ SEENS) : (Txt.join " " ["if", a, b, w]).length ≤ 21 := by
  have e1 : a.length ≤ 1 := (by decide +kernel : ∀ s ∈ ABCD, s.length ≤ 1) a ha
  have e2 : b.length ≤ 1 := (by decide +kernel : ∀ s ∈ ABCD, s.length ≤ 1) b hb
  have e3 : w.length ≤ 7 := (by decide +kernel : ∀ s ∈ SEENS, s.length ≤ 7) w hw
  have e4 : (PySem.Str.ofString "if").length = 2 := by decide +kernel
  have hc := join_cost (y := " ") (by rw [sp_tl]; simp) (["if", a, b, w] : List PySem.Str)
  unfold costL at hc
  simp only [List.map_cons, List.map_nil, List.sum_cons, List.sum_nil, List.length_cons, List.length_nil, e4] at hc
  omega
theorem stp_lines {n : Nat} (hn : n ≤ 2) {s : Stp} (h : GenStp n s) : costL s.lines ≤ 110 := by
  cases s with
  | pl p =>
    have := pl_line hn (GenPl.good h)
    show costL [lineD p] ≤ 110
    rw [costL_one]
    omega
  | iff a b w b1 b2 =>
    obtain ⟨ha, hb, hw, ⟨q, rfl, gq, _⟩, h2⟩ := h
    have l1 := hd_line ha hb hw
    have l2 := pl_line hn gq.good
    have l3 : costL (linesP b2) ≤ 22 := by
      rcases h2 with rfl | rfl
      · exact Nat.zero_le _
      · have := pl_line hn (hca_gen n).good
        show costL [lineD HCA] ≤ 22
        rw [costL_one]
        omega
    have l4 : (PySem.Str.ofString "else").length = 4 := by decide +kernel
    have l5 : (PySem.Str.ofString "end").length = 3 := by decide +kernel
    show costL (([Txt.join " " ["if", a, b, w]] : List PySem.Str) ++ [lineD q] ++ (["else"] : List PySem.Str) ++ linesP b2 ++ (["end"] : List PySem.Str)) ≤ 110
    rw [costL_app, costL_app, costL_app, costL_app, costL_one, costL_one, costL_one, costL_one, l4, l5]
    omega
theorem all_lines {n : Nat} (hn : n ≤ 2) : ∀ {ss : List Stp}, (∀ s ∈ ss, GenStp n s) → costL (linesAll ss) ≤ 110 * ss.length
  | [], _ => Nat.zero_le _
  | s :: ss, h => by
    have ih := all_lines hn (ss := ss) fun x hx => h x (by simp [hx])
    have h1 := stp_lines hn (h s (by simp))
    show costL (s.lines ++ linesAll ss) ≤ 110 * (ss.length + 1)
    rw [costL_app]
    omega
theorem depthAll_le {k : Nat} : ∀ {l : List PyData}, (∀ x ∈ l, x.depth ≤ k) → PyData.depthAll l ≤ k
  | [], _ => Nat.zero_le _
  | x :: l, h => by
    have ih := depthAll_le (l := l) fun y hy => h y (by simp [hy])
    have h1 := h x (by simp)
    show max x.depth (PyData.depthAll l) ≤ k
    omega
theorem depth_pl {n : Nat} {p : Pl} (h : GenPl n p) : p.d.depth ≤ 1 := by
  have : PyData.depthAll (.str p.1 :: p.2) ≤ 0 := depthAll_le fun x hx => by
    rcases List.mem_cons.mp hx with rfl | hx
    · exact Nat.le_refl _
    · rcases h.parts x hx with ⟨z, rfl, _⟩ | ⟨k, rfl, _⟩ <;> exact Nat.le_refl _
  show PyData.depthAll (.str p.1 :: p.2) + 1 ≤ 1
  omega
theorem depth_stp {n : Nat} {s : Stp} (h : GenStp n s) : s.d.depth ≤ 3 := by
  cases s with
  | pl p => exact Nat.le_trans (depth_pl h) (by decide)
  | iff a b w b1 b2 =>
    obtain ⟨_, _, _, ⟨q, rfl, gq, _⟩, h2⟩ := h
    have e1 : PyData.depthAll ([q].map Pl.d) ≤ 1 := depthAll_le fun x hx => by
      rw [List.map_cons, List.map_nil] at hx
      rw [List.mem_singleton.mp hx]; exact depth_pl gq
    have e2 : PyData.depthAll (b2.map Pl.d) ≤ 1 := depthAll_le fun x hx => by
      rcases h2 with rfl | rfl
      · cases hx
      · rw [List.map_cons, List.map_nil] at hx
        rw [List.mem_singleton.mp hx]; exact depth_pl (hca_gen n)
    have : PyData.depthAll [.str "if", .str a, .str b, .str w, .tuple ([q].map Pl.d), .tuple (b2.map Pl.d)] ≤ 2 := depthAll_le fun x hx => by
      simp only [List.mem_cons, List.not_mem_nil, or_false] at hx
      rcases hx with rfl | rfl | rfl | rfl | rfl | rfl
      · exact Nat.zero_le _
      · exact Nat.zero_le _
      · exact Nat.zero_le _
      · exact Nat.zero_le _
      · show PyData.depthAll ([q].map Pl.d) + 1 ≤ 2; omega
      · show PyData.depthAll (b2.map Pl.d) + 1 ≤ 2; omega
    show PyData.depthAll [.str "if", .str a, .str b, .str w, .tuple ([q].map Pl.d), .tuple (b2.map Pl.d)] + 1 ≤ 3
    omega
theorem law_gen (n : Nat) (ss : List Stp) (_ : 1 ≤ n) (hn : n ≤ 2) (h : GenSs n ss) : GoodSs n ss ∧ (textOf ss).length ≤ 2500 ∧ rdText n (.str (textOf ss)) = .ok ss ∧ PyData.plainAll (ss.map Stp.d) = true ∧ PyData.depthAll (ss.map Stp.d) ≤ 20 := by
  have hlen := h.len
  have hall := h.all
  have hr := h.reads
  have hok : scriptOk ss = true := by
    unfold scriptOk
    rw [allW_read h.gen, decide_eq_true (by omega : (ss.length : Int) ≤ 6), decide_eq_true (by omega : ((allW ss).length : Int) ≤ 10), decide_eq_true (by omega : (((ss.map Stp.hd).count ("read" : PySem.Str) : Nat) : Int) ≤ 2), List.all_eq_true.mpr fun s hs => gs_ok (h.gen s hs)]
    rfl
  have hc := all_lines hn h.gen
  have hcl : costL (linesAll ss) = ((linesAll ss).map (·.length)).sum + (linesAll ss).length := rfl
  have hj : (textOf ss).length ≤ costL (linesAll ss) := join_cost (y := "\n") (by rw [nl_tl]; simp) (linesAll ss)
  refine ⟨⟨by rw [← allW_len]; omega, fun s hs => gs_good (h.gen s hs), hok, fun s hs => lok_of (by omega) (gs_good (h.gen s hs)) (gs_ok (h.gen s hs)), by omega, by omega⟩, by omega, rd_gen h.gen hok, ?_, ?_⟩
  · refine plainAll_mem fun x hx => ?_
    obtain ⟨s, hs, rfl⟩ := List.mem_map.mp hx
    exact stp_plain (h.gen s hs)
  · refine depthAll_le fun x hx => ?_
    obtain ⟨s, hs, rfl⟩ := List.mem_map.mp hx
    exact Nat.le_trans (depth_stp (h.gen s hs)) (by decide)
theorem laws : Laws := ⟨law_gen, law_due⟩
end CL
set_option maxRecDepth 100000
set_option maxHeartbeats 2000000
namespace CL
open PySem L2 DL
theorem walk {l : PySem.W.OpenLaw} {q : Program} {loose : List PySem.Str} {XP : (PySem.Str → Option Value) → Heap → Prop} {YP : World → Heap → Prop} {d : DefRec} {K : Params → PySem.W.Frag} (hn : l.most = some 63) (hdf : d.params.defaults = [])
    (hY : ∀ (w : World) (h : Heap), YP w h → (K w.params).In h)
    (F : ∀ (w : World) (mg : PySem.Str → Option Value) (fa : Addr) (h : Heap), (K w.params).In h → h.Ns mainGlobals mg → mg d.name = some (.ref fa) →
      ∃ fd : FuncData, (∀ (s : Shared) (u : Value), BindsTo s fd ⟨[u], []⟩ [("_law_script_here", u)]) ∧ ∀ base : Heap, (K w.params).In base → base.Ns mainGlobals mg → FnOk l.prog w (K w.params) mg base CX0 40 fa fd ["_law_script_here"] (spLaw (K w.params))) :
    PySem.W.WalkO q loose XP YP l.row.toRowW d [] (fun f vs => PySem.call f vs) :=
  L2.walk_of (n := 63) (k := 40) (x := "_law_script_here") (CX := fun _ => CX0) (sp := fun w => spLaw (K w.params)) hn (by decide) hdf ⟨rfl, by decide, by decide⟩ hY F (fun _ _ a ns hl _ hS => ⟨a, ns, rfl, hS, hl, fun _ => rfl⟩) fun _ _ _ _ _ z => z
/-- an error of the class at S is what «except S» names -/
theorem exm_self {K : PySem.W.Frag} {S : Addr} (h1 : PySem.W.subIn K (.ref S) (.type "BaseException") = some true) (h2 : PySem.W.isClsIn K S = true) (h3 : PySem.W.typeIn K (.ref S) = some (.type "type")) (h4 : PySem.W.subIn K (.ref S) (.ref S) = some true) :
    PySem.W.exmOne K (.ref S) (.ref S) = some true := by
  have e1 : (PySem.W.subIn K (.ref S) (.type "BaseException") == some true) = true := by rw [h1] <;> rfl
  have e2 : ((PySem.W.clsIn K S).isSome && PySem.W.typeIn K (.ref S) == some (.type "type")) = true := by
    have h2' : (PySem.W.clsIn K S).isSome = true := h2
    rw [h2', h3] <;> rfl
  show (if (PySem.W.subIn K (.ref S) (.type "BaseException") == some true) = true then (if ((PySem.W.clsIn K S).isSome && PySem.W.typeIn K (.ref S) == some (.type "type")) = true then PySem.W.subIn K (.ref S) (.ref S) else none) else none) = some true
  rw [if_pos e1, if_pos e2]
  exact h4

theorem all_mk {P : Program} {w : World} {K : PySem.W.Frag} {h : Heap} {mg : PySem.Str → Option Value} {fa : Addr} (X : K.In h) (G : h.Ns mainGlobals mg) (hfa : mg "law" = some (.ref fa))
    {f_common : Addr} {od_common an_common : Option Addr} {sl_common : Array (Option Value)} {oc_common kV_common dc_common pm_common cd_common ct_common : Value}
    {f_lowest : Addr} {od_lowest an_lowest : Option Addr} {sl_lowest : Array (Option Value)} {oc_lowest kV_lowest dc_lowest pm_lowest cd_lowest ct_lowest : Value}
    {f_is_less : Addr} {od_is_less an_is_less : Option Addr} {sl_is_less : Array (Option Value)} {oc_is_less kV_is_less dc_is_less pm_is_less cd_is_less ct_is_less : Value}
    {f_is_integer : Addr} {od_is_integer an_is_integer : Option Addr} {sl_is_integer : Array (Option Value)} {oc_is_integer kV_is_integer dc_is_integer pm_is_integer cd_is_integer ct_is_integer : Value}
    {f_is_from : Addr} {od_is_from an_is_from : Option Addr} {sl_is_from : Array (Option Value)} {oc_is_from kV_is_from dc_is_from pm_is_from cd_is_from ct_is_from : Value}
    {f_is_tuple_of : Addr} {od_is_tuple_of an_is_tuple_of : Option Addr} {sl_is_tuple_of : Array (Option Value)} {oc_is_tuple_of kV_is_tuple_of dc_is_tuple_of pm_is_tuple_of cd_is_tuple_of ct_is_tuple_of : Value}
    {f_is_word : Addr} {od_is_word an_is_word : Option Addr} {sl_is_word : Array (Option Value)} {oc_is_word kV_is_word dc_is_word pm_is_word cd_is_word ct_is_word : Value}
    {f_is_any_fraction : Addr} {od_is_any_fraction an_is_any_fraction : Option Addr} {sl_is_any_fraction : Array (Option Value)} {oc_is_any_fraction kV_is_any_fraction dc_is_any_fraction pm_is_any_fraction cd_is_any_fraction ct_is_any_fraction : Value}
    {f_is_fraction : Addr} {od_is_fraction an_is_fraction : Option Addr} {sl_is_fraction : Array (Option Value)} {oc_is_fraction kV_is_fraction dc_is_fraction pm_is_fraction cd_is_fraction ct_is_fraction : Value}
    {f_are_bounds : Addr} {od_are_bounds an_are_bounds : Option Addr} {sl_are_bounds : Array (Option Value)} {oc_are_bounds kV_are_bounds dc_are_bounds pm_are_bounds cd_are_bounds ct_are_bounds : Value}
    {f_is_tape : Addr} {od_is_tape an_is_tape : Option Addr} {sl_is_tape : Array (Option Value)} {oc_is_tape kV_is_tape dc_is_tape pm_is_tape cd_is_tape ct_is_tape : Value}
    {f_is_world : Addr} {od_is_world an_is_world : Option Addr} {sl_is_world : Array (Option Value)} {oc_is_world kV_is_world dc_is_world pm_is_world cd_is_world ct_is_world : Value}
    {f_is_name : Addr} {od_is_name an_is_name : Option Addr} {sl_is_name : Array (Option Value)} {oc_is_name kV_is_name dc_is_name pm_is_name cd_is_name ct_is_name : Value}
    {f_is_mark : Addr} {od_is_mark an_is_mark : Option Addr} {sl_is_mark : Array (Option Value)} {oc_is_mark kV_is_mark dc_is_mark pm_is_mark cd_is_mark ct_is_mark : Value}
    {f_is_plain : Addr} {od_is_plain an_is_plain : Option Addr} {sl_is_plain : Array (Option Value)} {oc_is_plain kV_is_plain dc_is_plain pm_is_plain cd_is_plain ct_is_plain : Value}
    {f_is_body : Addr} {od_is_body an_is_body : Option Addr} {sl_is_body : Array (Option Value)} {oc_is_body kV_is_body dc_is_body pm_is_body cd_is_body ct_is_body : Value}
    {f_is_step : Addr} {od_is_step an_is_step : Option Addr} {sl_is_step : Array (Option Value)} {oc_is_step kV_is_step dc_is_step pm_is_step cd_is_step ct_is_step : Value}
    {f_all_steps : Addr} {od_all_steps an_all_steps : Option Addr} {sl_all_steps : Array (Option Value)} {oc_all_steps kV_all_steps dc_all_steps pm_all_steps cd_all_steps ct_all_steps : Value}
    {f_is_script_of : Addr} {od_is_script_of an_is_script_of : Option Addr} {sl_is_script_of : Array (Option Value)} {oc_is_script_of kV_is_script_of dc_is_script_of pm_is_script_of cd_is_script_of ct_is_script_of : Value}
    {f_need_world : Addr} {od_need_world an_need_world : Option Addr} {sl_need_world : Array (Option Value)} {oc_need_world kV_need_world dc_need_world pm_need_world cd_need_world ct_need_world : Value}
    {f_need_script : Addr} {od_need_script an_need_script : Option Addr} {sl_need_script : Array (Option Value)} {oc_need_script kV_need_script dc_need_script pm_need_script cd_need_script ct_need_script : Value}
    {f_lines_of : Addr} {od_lines_of an_lines_of : Option Addr} {sl_lines_of : Array (Option Value)} {oc_lines_of kV_lines_of dc_lines_of pm_lines_of cd_lines_of ct_lines_of : Value}
    {f_integer_of : Addr} {od_integer_of an_integer_of : Option Addr} {sl_integer_of : Array (Option Value)} {oc_integer_of kV_integer_of dc_integer_of pm_integer_of cd_integer_of ct_integer_of : Value}
    {f_step_of : Addr} {od_step_of an_step_of : Option Addr} {sl_step_of : Array (Option Value)} {oc_step_of kV_step_of dc_step_of pm_step_of cd_step_of ct_step_of : Value}
    {f_put_together : Addr} {od_put_together an_put_together : Option Addr} {sl_put_together : Array (Option Value)} {oc_put_together kV_put_together dc_put_together pm_put_together cd_put_together ct_put_together : Value}
    {f_script_read : Addr} {od_script_read an_script_read : Option Addr} {sl_script_read : Array (Option Value)} {oc_script_read kV_script_read dc_script_read pm_script_read cd_script_read ct_script_read : Value}
    {f_script_text : Addr} {od_script_text an_script_text : Option Addr} {sl_script_text : Array (Option Value)} {oc_script_text kV_script_text dc_script_text pm_script_text cd_script_text ct_script_text : Value}
    {f_read_script : Addr} {od_read_script an_read_script : Option Addr} {sl_read_script : Array (Option Value)} {oc_read_script kV_read_script dc_read_script pm_read_script cd_read_script ct_read_script : Value}
    {f_law_jar : Addr} {od_law_jar an_law_jar : Option Addr} {sl_law_jar : Array (Option Value)} {oc_law_jar kV_law_jar dc_law_jar pm_law_jar cd_law_jar ct_law_jar : Value}
    {f_law_dip : Addr} {od_law_dip an_law_dip : Option Addr} {sl_law_dip : Array (Option Value)} {oc_law_dip kV_law_dip dc_law_dip pm_law_dip cd_law_dip ct_law_dip : Value}
    {f_law_any_of : Addr} {od_law_any_of an_law_any_of : Option Addr} {sl_law_any_of : Array (Option Value)} {oc_law_any_of kV_law_any_of dc_law_any_of pm_law_any_of cd_law_any_of ct_law_any_of : Value}
    {f_law_low : Addr} {od_law_low an_law_low : Option Addr} {sl_law_low : Array (Option Value)} {oc_law_low kV_law_low dc_law_low pm_law_low cd_law_low ct_law_low : Value}
    {f_law_pair : Addr} {od_law_pair an_law_pair : Option Addr} {sl_law_pair : Array (Option Value)} {oc_law_pair kV_law_pair dc_law_pair pm_law_pair cd_law_pair ct_law_pair : Value}
    {f_law_world : Addr} {od_law_world an_law_world : Option Addr} {sl_law_world : Array (Option Value)} {oc_law_world kV_law_world dc_law_world pm_law_world cd_law_world ct_law_world : Value}
    {f_law_name : Addr} {od_law_name an_law_name : Option Addr} {sl_law_name : Array (Option Value)} {oc_law_name kV_law_name dc_law_name pm_law_name cd_law_name ct_law_name : Value}
    {f_law_plain : Addr} {od_law_plain an_law_plain : Option Addr} {sl_law_plain : Array (Option Value)} {oc_law_plain kV_law_plain dc_law_plain pm_law_plain cd_law_plain ct_law_plain : Value}
    {f_law_script : Addr} {od_law_script an_law_script : Option Addr} {sl_law_script : Array (Option Value)} {oc_law_script kV_law_script dc_law_script pm_law_script cd_law_script ct_law_script : Value}
    {f_law_kinds : Addr} {od_law_kinds an_law_kinds : Option Addr} {sl_law_kinds : Array (Option Value)} {oc_law_kinds kV_law_kinds dc_law_kinds pm_law_kinds cd_law_kinds ct_law_kinds : Value}
    {f_law_lines : Addr} {od_law_lines an_law_lines : Option Addr} {sl_law_lines : Array (Option Value)} {oc_law_lines kV_law_lines dc_law_lines pm_law_lines cd_law_lines ct_law_lines : Value}
    {f_law_word_good : Addr} {od_law_word_good an_law_word_good : Option Addr} {sl_law_word_good : Array (Option Value)} {oc_law_word_good kV_law_word_good dc_law_word_good pm_law_word_good cd_law_word_good ct_law_word_good : Value}
    {f_law_line_good : Addr} {od_law_line_good an_law_line_good : Option Addr} {sl_law_line_good : Array (Option Value)} {oc_law_line_good kV_law_line_good dc_law_line_good pm_law_line_good cd_law_line_good ct_law_line_good : Value}
    {f_law_whole_good : Addr} {od_law_whole_good an_law_whole_good : Option Addr} {sl_law_whole_good : Array (Option Value)} {oc_law_whole_good kV_law_whole_good dc_law_whole_good pm_law_whole_good cd_law_whole_good ct_law_whole_good : Value}
    {f_law_due : Addr} {od_law_due an_law_due : Option Addr} {sl_law_due : Array (Option Value)} {oc_law_due kV_law_due dc_law_due pm_law_due cd_law_due ct_law_due : Value}
    {f_law_read : Addr} {od_law_read an_law_read : Option Addr} {sl_law_read : Array (Option Value)} {oc_law_read kV_law_read dc_law_read pm_law_read cd_law_read ct_law_read : Value}
    {f_law_bent : Addr} {od_law_bent an_law_bent : Option Addr} {sl_law_bent : Array (Option Value)} {oc_law_bent kV_law_bent dc_law_bent pm_law_bent cd_law_bent ct_law_bent : Value}
    {f_law : Addr} {od_law an_law : Option Addr} {sl_law : Array (Option Value)} {oc_law kV_law dc_law pm_law cd_law ct_law : Value}
    {fT : Addr} {dT : Option Addr} {cT : Value} {nT : Nat} {slT : Array (Option Value)}
    {t_CUT : Tok}
    {t_OUTER : Tok}
    {t_INNER : Tok}
    {t_JOIN : Tok}
    {t_HALF : Tok}
    {t_SPLIT : Tok}
    {t_READ : Tok}
    {t_AGAIN : Tok}
    {t_HOLD : Tok}
    {t_IF : Tok}
    {t_LONGER : Tok}
    {t_SAME : Tok}
    {t_SHORTER : Tok}
    {t_ELSE : Tok}
    {t_END : Tok}
    {tMP : Tok}
    {f_NAMES : Addr} {d_NAMES : Option Addr} {n_NAMES : Nat} {sl_NAMES : Array (Option Value)} {tNAMES0 tNAMES1 tNAMES2 tNAMES3 tNAMES4 tNAMES5 : Tok}
    {f_SEEN : Addr} {d_SEEN : Option Addr} {n_SEEN : Nat} {sl_SEEN : Array (Option Value)} {tSEEN0 tSEEN1 tSEEN2 : Tok}
    {C CL fI cc cda N0 : Addr} {nm0 q0 : PySem.Str} {bs0 : List Value} {sn0 : List PySem.Str} {sub0 : List Value} {ab0 : Bool} {col0 : Option Bool} {dd0 : Option Addr} {m0 m1 m2 m3 m5 : Option Value}
    {oc0 dc0 pm0 ct0 cl0 ccl0 : Value} {od0 an0 cld0 cdd0 : Option Addr} {osl0 csl0 ccs0 : Array (Option Value)} {vs0 : Array Value} {tf0 : Tok}
    (a_common : PySem.W.nsIn K mainGlobals "common" = some (some (.ref f_common)))
    (l_common : K.lookup f_common = some ⟨oc_common, od_common, .func (PySem.W.fnOf "common" "common" (defArgs s_common) (defBody s_common) (defScope s_common) .none kV_common dc_common pm_common an_common cd_common ct_common), sl_common⟩)
    (c_common : PySem.W.codeIn K cd_common "common" = true)
    (k_common : PySem.W.keepIn K (.ref f_common) = true)
    (a_lowest : PySem.W.nsIn K mainGlobals "lowest" = some (some (.ref f_lowest)))
    (l_lowest : K.lookup f_lowest = some ⟨oc_lowest, od_lowest, .func (PySem.W.fnOf "lowest" "lowest" (defArgs s_lowest) (defBody s_lowest) (defScope s_lowest) .none kV_lowest dc_lowest pm_lowest an_lowest cd_lowest ct_lowest), sl_lowest⟩)
    (c_lowest : PySem.W.codeIn K cd_lowest "lowest" = true)
    (k_lowest : PySem.W.keepIn K (.ref f_lowest) = true)
    (a_is_less : PySem.W.nsIn K mainGlobals "is_less" = some (some (.ref f_is_less)))
    (l_is_less : K.lookup f_is_less = some ⟨oc_is_less, od_is_less, .func (PySem.W.fnOf "is_less" "is_less" (defArgs s_is_less) (defBody s_is_less) (defScope s_is_less) .none kV_is_less dc_is_less pm_is_less an_is_less cd_is_less ct_is_less), sl_is_less⟩)
    (c_is_less : PySem.W.codeIn K cd_is_less "is_less" = true)
    (k_is_less : PySem.W.keepIn K (.ref f_is_less) = true)
    (a_is_integer : PySem.W.nsIn K mainGlobals "is_integer" = some (some (.ref f_is_integer)))
    (l_is_integer : K.lookup f_is_integer = some ⟨oc_is_integer, od_is_integer, .func (PySem.W.fnOf "is_integer" "is_integer" (defArgs s_is_integer) (defBody s_is_integer) (defScope s_is_integer) .none kV_is_integer dc_is_integer pm_is_integer an_is_integer cd_is_integer ct_is_integer), sl_is_integer⟩)
    (c_is_integer : PySem.W.codeIn K cd_is_integer "is_integer" = true)
    (k_is_integer : PySem.W.keepIn K (.ref f_is_integer) = true)
    (a_is_from : PySem.W.nsIn K mainGlobals "is_from" = some (some (.ref f_is_from)))
    (l_is_from : K.lookup f_is_from = some ⟨oc_is_from, od_is_from, .func (PySem.W.fnOf "is_from" "is_from" (defArgs s_is_from) (defBody s_is_from) (defScope s_is_from) .none kV_is_from dc_is_from pm_is_from an_is_from cd_is_from ct_is_from), sl_is_from⟩)
    (c_is_from : PySem.W.codeIn K cd_is_from "is_from" = true)
    (k_is_from : PySem.W.keepIn K (.ref f_is_from) = true)
    (a_is_tuple_of : PySem.W.nsIn K mainGlobals "is_tuple_of" = some (some (.ref f_is_tuple_of)))
    (l_is_tuple_of : K.lookup f_is_tuple_of = some ⟨oc_is_tuple_of, od_is_tuple_of, .func (PySem.W.fnOf "is_tuple_of" "is_tuple_of" (defArgs s_is_tuple_of) (defBody s_is_tuple_of) (defScope s_is_tuple_of) .none kV_is_tuple_of dc_is_tuple_of pm_is_tuple_of an_is_tuple_of cd_is_tuple_of ct_is_tuple_of), sl_is_tuple_of⟩)
    (c_is_tuple_of : PySem.W.codeIn K cd_is_tuple_of "is_tuple_of" = true)
    (k_is_tuple_of : PySem.W.keepIn K (.ref f_is_tuple_of) = true)
    (a_is_word : PySem.W.nsIn K mainGlobals "is_word" = some (some (.ref f_is_word)))
    (l_is_word : K.lookup f_is_word = some ⟨oc_is_word, od_is_word, .func (PySem.W.fnOf "is_word" "is_word" (defArgs s_is_word) (defBody s_is_word) (defScope s_is_word) .none kV_is_word dc_is_word pm_is_word an_is_word cd_is_word ct_is_word), sl_is_word⟩)
    (c_is_word : PySem.W.codeIn K cd_is_word "is_word" = true)
    (k_is_word : PySem.W.keepIn K (.ref f_is_word) = true)
    (a_is_any_fraction : PySem.W.nsIn K mainGlobals "is_any_fraction" = some (some (.ref f_is_any_fraction)))
    (l_is_any_fraction : K.lookup f_is_any_fraction = some ⟨oc_is_any_fraction, od_is_any_fraction, .func (PySem.W.fnOf "is_any_fraction" "is_any_fraction" (defArgs s_is_any_fraction) (defBody s_is_any_fraction) (defScope s_is_any_fraction) .none kV_is_any_fraction dc_is_any_fraction pm_is_any_fraction an_is_any_fraction cd_is_any_fraction ct_is_any_fraction), sl_is_any_fraction⟩)
    (c_is_any_fraction : PySem.W.codeIn K cd_is_any_fraction "is_any_fraction" = true)
    (k_is_any_fraction : PySem.W.keepIn K (.ref f_is_any_fraction) = true)
    (a_is_fraction : PySem.W.nsIn K mainGlobals "is_fraction" = some (some (.ref f_is_fraction)))
    (l_is_fraction : K.lookup f_is_fraction = some ⟨oc_is_fraction, od_is_fraction, .func (PySem.W.fnOf "is_fraction" "is_fraction" (defArgs s_is_fraction) (defBody s_is_fraction) (defScope s_is_fraction) .none kV_is_fraction dc_is_fraction pm_is_fraction an_is_fraction cd_is_fraction ct_is_fraction), sl_is_fraction⟩)
    (c_is_fraction : PySem.W.codeIn K cd_is_fraction "is_fraction" = true)
    (k_is_fraction : PySem.W.keepIn K (.ref f_is_fraction) = true)
    (a_are_bounds : PySem.W.nsIn K mainGlobals "are_bounds" = some (some (.ref f_are_bounds)))
    (l_are_bounds : K.lookup f_are_bounds = some ⟨oc_are_bounds, od_are_bounds, .func (PySem.W.fnOf "are_bounds" "are_bounds" (defArgs s_are_bounds) (defBody s_are_bounds) (defScope s_are_bounds) .none kV_are_bounds dc_are_bounds pm_are_bounds an_are_bounds cd_are_bounds ct_are_bounds), sl_are_bounds⟩)
    (c_are_bounds : PySem.W.codeIn K cd_are_bounds "are_bounds" = true)
    (k_are_bounds : PySem.W.keepIn K (.ref f_are_bounds) = true)
    (a_is_tape : PySem.W.nsIn K mainGlobals "is_tape" = some (some (.ref f_is_tape)))
    (l_is_tape : K.lookup f_is_tape = some ⟨oc_is_tape, od_is_tape, .func (PySem.W.fnOf "is_tape" "is_tape" (defArgs s_is_tape) (defBody s_is_tape) (defScope s_is_tape) .none kV_is_tape dc_is_tape pm_is_tape an_is_tape cd_is_tape ct_is_tape), sl_is_tape⟩)
    (c_is_tape : PySem.W.codeIn K cd_is_tape "is_tape" = true)
    (k_is_tape : PySem.W.keepIn K (.ref f_is_tape) = true)
    (a_is_world : PySem.W.nsIn K mainGlobals "is_world" = some (some (.ref f_is_world)))
    (l_is_world : K.lookup f_is_world = some ⟨oc_is_world, od_is_world, .func (PySem.W.fnOf "is_world" "is_world" (defArgs s_is_world) (defBody s_is_world) (defScope s_is_world) .none kV_is_world dc_is_world pm_is_world an_is_world cd_is_world ct_is_world), sl_is_world⟩)
    (c_is_world : PySem.W.codeIn K cd_is_world "is_world" = true)
    (k_is_world : PySem.W.keepIn K (.ref f_is_world) = true)
    (a_is_name : PySem.W.nsIn K mainGlobals "is_name" = some (some (.ref f_is_name)))
    (l_is_name : K.lookup f_is_name = some ⟨oc_is_name, od_is_name, .func (PySem.W.fnOf "is_name" "is_name" (defArgs s_is_name) (defBody s_is_name) (defScope s_is_name) .none kV_is_name dc_is_name pm_is_name an_is_name cd_is_name ct_is_name), sl_is_name⟩)
    (c_is_name : PySem.W.codeIn K cd_is_name "is_name" = true)
    (k_is_name : PySem.W.keepIn K (.ref f_is_name) = true)
    (a_is_mark : PySem.W.nsIn K mainGlobals "is_mark" = some (some (.ref f_is_mark)))
    (l_is_mark : K.lookup f_is_mark = some ⟨oc_is_mark, od_is_mark, .func (PySem.W.fnOf "is_mark" "is_mark" (defArgs s_is_mark) (defBody s_is_mark) (defScope s_is_mark) .none kV_is_mark dc_is_mark pm_is_mark an_is_mark cd_is_mark ct_is_mark), sl_is_mark⟩)
    (c_is_mark : PySem.W.codeIn K cd_is_mark "is_mark" = true)
    (k_is_mark : PySem.W.keepIn K (.ref f_is_mark) = true)
    (a_is_plain : PySem.W.nsIn K mainGlobals "is_plain" = some (some (.ref f_is_plain)))
    (l_is_plain : K.lookup f_is_plain = some ⟨oc_is_plain, od_is_plain, .func (PySem.W.fnOf "is_plain" "is_plain" (defArgs s_is_plain) (defBody s_is_plain) (defScope s_is_plain) .none kV_is_plain dc_is_plain pm_is_plain an_is_plain cd_is_plain ct_is_plain), sl_is_plain⟩)
    (c_is_plain : PySem.W.codeIn K cd_is_plain "is_plain" = true)
    (k_is_plain : PySem.W.keepIn K (.ref f_is_plain) = true)
    (a_is_body : PySem.W.nsIn K mainGlobals "is_body" = some (some (.ref f_is_body)))
    (l_is_body : K.lookup f_is_body = some ⟨oc_is_body, od_is_body, .func (PySem.W.fnOf "is_body" "is_body" (defArgs s_is_body) (defBody s_is_body) (defScope s_is_body) .none kV_is_body dc_is_body pm_is_body an_is_body cd_is_body ct_is_body), sl_is_body⟩)
    (c_is_body : PySem.W.codeIn K cd_is_body "is_body" = true)
    (k_is_body : PySem.W.keepIn K (.ref f_is_body) = true)
    (a_is_step : PySem.W.nsIn K mainGlobals "is_step" = some (some (.ref f_is_step)))
    (l_is_step : K.lookup f_is_step = some ⟨oc_is_step, od_is_step, .func (PySem.W.fnOf "is_step" "is_step" (defArgs s_is_step) (defBody s_is_step) (defScope s_is_step) (.ref fT) kV_is_step dc_is_step pm_is_step an_is_step cd_is_step ct_is_step), sl_is_step⟩)
    (c_is_step : PySem.W.codeIn K cd_is_step "is_step" = true)
    (k_is_step : PySem.W.keepIn K (.ref f_is_step) = true)
    (a_all_steps : PySem.W.nsIn K mainGlobals "all_steps" = some (some (.ref f_all_steps)))
    (l_all_steps : K.lookup f_all_steps = some ⟨oc_all_steps, od_all_steps, .func (PySem.W.fnOf "all_steps" "all_steps" (defArgs s_all_steps) (defBody s_all_steps) (defScope s_all_steps) .none kV_all_steps dc_all_steps pm_all_steps an_all_steps cd_all_steps ct_all_steps), sl_all_steps⟩)
    (c_all_steps : PySem.W.codeIn K cd_all_steps "all_steps" = true)
    (k_all_steps : PySem.W.keepIn K (.ref f_all_steps) = true)
    (a_is_script_of : PySem.W.nsIn K mainGlobals "is_script_of" = some (some (.ref f_is_script_of)))
    (l_is_script_of : K.lookup f_is_script_of = some ⟨oc_is_script_of, od_is_script_of, .func (PySem.W.fnOf "is_script_of" "is_script_of" (defArgs s_is_script_of) (defBody s_is_script_of) (defScope s_is_script_of) .none kV_is_script_of dc_is_script_of pm_is_script_of an_is_script_of cd_is_script_of ct_is_script_of), sl_is_script_of⟩)
    (c_is_script_of : PySem.W.codeIn K cd_is_script_of "is_script_of" = true)
    (k_is_script_of : PySem.W.keepIn K (.ref f_is_script_of) = true)
    (a_need_world : PySem.W.nsIn K mainGlobals "need_world" = some (some (.ref f_need_world)))
    (l_need_world : K.lookup f_need_world = some ⟨oc_need_world, od_need_world, .func (PySem.W.fnOf "need_world" "need_world" (defArgs s_need_world) (defBody s_need_world) (defScope s_need_world) .none kV_need_world dc_need_world pm_need_world an_need_world cd_need_world ct_need_world), sl_need_world⟩)
    (c_need_world : PySem.W.codeIn K cd_need_world "need_world" = true)
    (k_need_world : PySem.W.keepIn K (.ref f_need_world) = true)
    (a_need_script : PySem.W.nsIn K mainGlobals "need_script" = some (some (.ref f_need_script)))
    (l_need_script : K.lookup f_need_script = some ⟨oc_need_script, od_need_script, .func (PySem.W.fnOf "need_script" "need_script" (defArgs s_need_script) (defBody s_need_script) (defScope s_need_script) .none kV_need_script dc_need_script pm_need_script an_need_script cd_need_script ct_need_script), sl_need_script⟩)
    (c_need_script : PySem.W.codeIn K cd_need_script "need_script" = true)
    (k_need_script : PySem.W.keepIn K (.ref f_need_script) = true)
    (a_lines_of : PySem.W.nsIn K mainGlobals "lines_of" = some (some (.ref f_lines_of)))
    (l_lines_of : K.lookup f_lines_of = some ⟨oc_lines_of, od_lines_of, .func (PySem.W.fnOf "lines_of" "lines_of" (defArgs s_lines_of) (defBody s_lines_of) (defScope s_lines_of) .none kV_lines_of dc_lines_of pm_lines_of an_lines_of cd_lines_of ct_lines_of), sl_lines_of⟩)
    (c_lines_of : PySem.W.codeIn K cd_lines_of "lines_of" = true)
    (k_lines_of : PySem.W.keepIn K (.ref f_lines_of) = true)
    (a_integer_of : PySem.W.nsIn K mainGlobals "integer_of" = some (some (.ref f_integer_of)))
    (l_integer_of : K.lookup f_integer_of = some ⟨oc_integer_of, od_integer_of, .func (PySem.W.fnOf "integer_of" "integer_of" (defArgs s_integer_of) (defBody s_integer_of) (defScope s_integer_of) .none kV_integer_of dc_integer_of pm_integer_of an_integer_of cd_integer_of ct_integer_of), sl_integer_of⟩)
    (c_integer_of : PySem.W.codeIn K cd_integer_of "integer_of" = true)
    (k_integer_of : PySem.W.keepIn K (.ref f_integer_of) = true)
    (a_step_of : PySem.W.nsIn K mainGlobals "step_of" = some (some (.ref f_step_of)))
    (l_step_of : K.lookup f_step_of = some ⟨oc_step_of, od_step_of, .func (PySem.W.fnOf "step_of" "step_of" (defArgs s_step_of) (defBody s_step_of) (defScope s_step_of) .none kV_step_of dc_step_of pm_step_of an_step_of cd_step_of ct_step_of), sl_step_of⟩)
    (c_step_of : PySem.W.codeIn K cd_step_of "step_of" = true)
    (k_step_of : PySem.W.keepIn K (.ref f_step_of) = true)
    (a_put_together : PySem.W.nsIn K mainGlobals "put_together" = some (some (.ref f_put_together)))
    (l_put_together : K.lookup f_put_together = some ⟨oc_put_together, od_put_together, .func (PySem.W.fnOf "put_together" "put_together" (defArgs s_put_together) (defBody s_put_together) (defScope s_put_together) .none kV_put_together dc_put_together pm_put_together an_put_together cd_put_together ct_put_together), sl_put_together⟩)
    (c_put_together : PySem.W.codeIn K cd_put_together "put_together" = true)
    (k_put_together : PySem.W.keepIn K (.ref f_put_together) = true)
    (a_script_read : PySem.W.nsIn K mainGlobals "script_read" = some (some (.ref f_script_read)))
    (l_script_read : K.lookup f_script_read = some ⟨oc_script_read, od_script_read, .func (PySem.W.fnOf "script_read" "script_read" (defArgs s_script_read) (defBody s_script_read) (defScope s_script_read) .none kV_script_read dc_script_read pm_script_read an_script_read cd_script_read ct_script_read), sl_script_read⟩)
    (c_script_read : PySem.W.codeIn K cd_script_read "script_read" = true)
    (k_script_read : PySem.W.keepIn K (.ref f_script_read) = true)
    (a_script_text : PySem.W.nsIn K mainGlobals "script_text" = some (some (.ref f_script_text)))
    (l_script_text : K.lookup f_script_text = some ⟨oc_script_text, od_script_text, .func (PySem.W.fnOf "script_text" "script_text" (defArgs s_script_text) (defBody s_script_text) (defScope s_script_text) .none kV_script_text dc_script_text pm_script_text an_script_text cd_script_text ct_script_text), sl_script_text⟩)
    (c_script_text : PySem.W.codeIn K cd_script_text "script_text" = true)
    (k_script_text : PySem.W.keepIn K (.ref f_script_text) = true)
    (a_read_script : PySem.W.nsIn K mainGlobals "read_script" = some (some (.ref f_read_script)))
    (l_read_script : K.lookup f_read_script = some ⟨oc_read_script, od_read_script, .func (PySem.W.fnOf "read_script" "read_script" (defArgs s_read_script) (defBody s_read_script) (defScope s_read_script) .none kV_read_script dc_read_script pm_read_script an_read_script cd_read_script ct_read_script), sl_read_script⟩)
    (c_read_script : PySem.W.codeIn K cd_read_script "read_script" = true)
    (k_read_script : PySem.W.keepIn K (.ref f_read_script) = true)
    (a_law_jar : PySem.W.nsIn K mainGlobals "_law_jar" = some (some (.ref f_law_jar)))
    (l_law_jar : K.lookup f_law_jar = some ⟨oc_law_jar, od_law_jar, .func (PySem.W.fnOf "_law_jar" "_law_jar" (defArgs s_law_jar) (defBody s_law_jar) (defScope s_law_jar) .none kV_law_jar dc_law_jar pm_law_jar an_law_jar cd_law_jar ct_law_jar), sl_law_jar⟩)
    (c_law_jar : PySem.W.codeIn K cd_law_jar "_law_jar" = true)
    (k_law_jar : PySem.W.keepIn K (.ref f_law_jar) = true)
    (a_law_dip : PySem.W.nsIn K mainGlobals "_law_dip" = some (some (.ref f_law_dip)))
    (l_law_dip : K.lookup f_law_dip = some ⟨oc_law_dip, od_law_dip, .func (PySem.W.fnOf "_law_dip" "_law_dip" (defArgs s_law_dip) (defBody s_law_dip) (defScope s_law_dip) .none kV_law_dip dc_law_dip pm_law_dip an_law_dip cd_law_dip ct_law_dip), sl_law_dip⟩)
    (c_law_dip : PySem.W.codeIn K cd_law_dip "_law_dip" = true)
    (k_law_dip : PySem.W.keepIn K (.ref f_law_dip) = true)
    (a_law_any_of : PySem.W.nsIn K mainGlobals "_law_any_of" = some (some (.ref f_law_any_of)))
    (l_law_any_of : K.lookup f_law_any_of = some ⟨oc_law_any_of, od_law_any_of, .func (PySem.W.fnOf "_law_any_of" "_law_any_of" (defArgs s_law_any_of) (defBody s_law_any_of) (defScope s_law_any_of) .none kV_law_any_of dc_law_any_of pm_law_any_of an_law_any_of cd_law_any_of ct_law_any_of), sl_law_any_of⟩)
    (c_law_any_of : PySem.W.codeIn K cd_law_any_of "_law_any_of" = true)
    (k_law_any_of : PySem.W.keepIn K (.ref f_law_any_of) = true)
    (a_law_low : PySem.W.nsIn K mainGlobals "_law_low" = some (some (.ref f_law_low)))
    (l_law_low : K.lookup f_law_low = some ⟨oc_law_low, od_law_low, .func (PySem.W.fnOf "_law_low" "_law_low" (defArgs s_law_low) (defBody s_law_low) (defScope s_law_low) .none kV_law_low dc_law_low pm_law_low an_law_low cd_law_low ct_law_low), sl_law_low⟩)
    (c_law_low : PySem.W.codeIn K cd_law_low "_law_low" = true)
    (k_law_low : PySem.W.keepIn K (.ref f_law_low) = true)
    (a_law_pair : PySem.W.nsIn K mainGlobals "_law_pair" = some (some (.ref f_law_pair)))
    (l_law_pair : K.lookup f_law_pair = some ⟨oc_law_pair, od_law_pair, .func (PySem.W.fnOf "_law_pair" "_law_pair" (defArgs s_law_pair) (defBody s_law_pair) (defScope s_law_pair) .none kV_law_pair dc_law_pair pm_law_pair an_law_pair cd_law_pair ct_law_pair), sl_law_pair⟩)
    (c_law_pair : PySem.W.codeIn K cd_law_pair "_law_pair" = true)
    (k_law_pair : PySem.W.keepIn K (.ref f_law_pair) = true)
    (a_law_world : PySem.W.nsIn K mainGlobals "_law_world" = some (some (.ref f_law_world)))
    (l_law_world : K.lookup f_law_world = some ⟨oc_law_world, od_law_world, .func (PySem.W.fnOf "_law_world" "_law_world" (defArgs s_law_world) (defBody s_law_world) (defScope s_law_world) .none kV_law_world dc_law_world pm_law_world an_law_world cd_law_world ct_law_world), sl_law_world⟩)
    (c_law_world : PySem.W.codeIn K cd_law_world "_law_world" = true)
    (k_law_world : PySem.W.keepIn K (.ref f_law_world) = true)
    (a_law_name : PySem.W.nsIn K mainGlobals "_law_name" = some (some (.ref f_law_name)))
    (l_law_name : K.lookup f_law_name = some ⟨oc_law_name, od_law_name, .func (PySem.W.fnOf "_law_name" "_law_name" (defArgs s_law_name) (defBody s_law_name) (defScope s_law_name) .none kV_law_name dc_law_name pm_law_name an_law_name cd_law_name ct_law_name), sl_law_name⟩)
    (c_law_name : PySem.W.codeIn K cd_law_name "_law_name" = true)
    (k_law_name : PySem.W.keepIn K (.ref f_law_name) = true)
    (a_law_plain : PySem.W.nsIn K mainGlobals "_law_plain" = some (some (.ref f_law_plain)))
    (l_law_plain : K.lookup f_law_plain = some ⟨oc_law_plain, od_law_plain, .func (PySem.W.fnOf "_law_plain" "_law_plain" (defArgs s_law_plain) (defBody s_law_plain) (defScope s_law_plain) .none kV_law_plain dc_law_plain pm_law_plain an_law_plain cd_law_plain ct_law_plain), sl_law_plain⟩)
    (c_law_plain : PySem.W.codeIn K cd_law_plain "_law_plain" = true)
    (k_law_plain : PySem.W.keepIn K (.ref f_law_plain) = true)
    (a_law_script : PySem.W.nsIn K mainGlobals "_law_script" = some (some (.ref f_law_script)))
    (l_law_script : K.lookup f_law_script = some ⟨oc_law_script, od_law_script, .func (PySem.W.fnOf "_law_script" "_law_script" (defArgs s_law_script) (defBody s_law_script) (defScope s_law_script) .none kV_law_script dc_law_script pm_law_script an_law_script cd_law_script ct_law_script), sl_law_script⟩)
    (c_law_script : PySem.W.codeIn K cd_law_script "_law_script" = true)
    (k_law_script : PySem.W.keepIn K (.ref f_law_script) = true)
    (a_law_kinds : PySem.W.nsIn K mainGlobals "_law_kinds" = some (some (.ref f_law_kinds)))
    (l_law_kinds : K.lookup f_law_kinds = some ⟨oc_law_kinds, od_law_kinds, .func (PySem.W.fnOf "_law_kinds" "_law_kinds" (defArgs s_law_kinds) (defBody s_law_kinds) (defScope s_law_kinds) .none kV_law_kinds dc_law_kinds pm_law_kinds an_law_kinds cd_law_kinds ct_law_kinds), sl_law_kinds⟩)
    (c_law_kinds : PySem.W.codeIn K cd_law_kinds "_law_kinds" = true)
    (k_law_kinds : PySem.W.keepIn K (.ref f_law_kinds) = true)
    (a_law_lines : PySem.W.nsIn K mainGlobals "_law_lines" = some (some (.ref f_law_lines)))
    (l_law_lines : K.lookup f_law_lines = some ⟨oc_law_lines, od_law_lines, .func (PySem.W.fnOf "_law_lines" "_law_lines" (defArgs s_law_lines) (defBody s_law_lines) (defScope s_law_lines) .none kV_law_lines dc_law_lines pm_law_lines an_law_lines cd_law_lines ct_law_lines), sl_law_lines⟩)
    (c_law_lines : PySem.W.codeIn K cd_law_lines "_law_lines" = true)
    (k_law_lines : PySem.W.keepIn K (.ref f_law_lines) = true)
    (a_law_word_good : PySem.W.nsIn K mainGlobals "_law_word_good" = some (some (.ref f_law_word_good)))
    (l_law_word_good : K.lookup f_law_word_good = some ⟨oc_law_word_good, od_law_word_good, .func (PySem.W.fnOf "_law_word_good" "_law_word_good" (defArgs s_law_word_good) (defBody s_law_word_good) (defScope s_law_word_good) .none kV_law_word_good dc_law_word_good pm_law_word_good an_law_word_good cd_law_word_good ct_law_word_good), sl_law_word_good⟩)
    (c_law_word_good : PySem.W.codeIn K cd_law_word_good "_law_word_good" = true)
    (k_law_word_good : PySem.W.keepIn K (.ref f_law_word_good) = true)
    (a_law_line_good : PySem.W.nsIn K mainGlobals "_law_line_good" = some (some (.ref f_law_line_good)))
    (l_law_line_good : K.lookup f_law_line_good = some ⟨oc_law_line_good, od_law_line_good, .func (PySem.W.fnOf "_law_line_good" "_law_line_good" (defArgs s_law_line_good) (defBody s_law_line_good) (defScope s_law_line_good) .none kV_law_line_good dc_law_line_good pm_law_line_good an_law_line_good cd_law_line_good ct_law_line_good), sl_law_line_good⟩)
    (c_law_line_good : PySem.W.codeIn K cd_law_line_good "_law_line_good" = true)
    (k_law_line_good : PySem.W.keepIn K (.ref f_law_line_good) = true)
    (a_law_whole_good : PySem.W.nsIn K mainGlobals "_law_whole_good" = some (some (.ref f_law_whole_good)))
    (l_law_whole_good : K.lookup f_law_whole_good = some ⟨oc_law_whole_good, od_law_whole_good, .func (PySem.W.fnOf "_law_whole_good" "_law_whole_good" (defArgs s_law_whole_good) (defBody s_law_whole_good) (defScope s_law_whole_good) .none kV_law_whole_good dc_law_whole_good pm_law_whole_good an_law_whole_good cd_law_whole_good ct_law_whole_good), sl_law_whole_good⟩)
    (c_law_whole_good : PySem.W.codeIn K cd_law_whole_good "_law_whole_good" = true)
    (k_law_whole_good : PySem.W.keepIn K (.ref f_law_whole_good) = true)
    (a_law_due : PySem.W.nsIn K mainGlobals "_law_due" = some (some (.ref f_law_due)))
    (l_law_due : K.lookup f_law_due = some ⟨oc_law_due, od_law_due, .func (PySem.W.fnOf "_law_due" "_law_due" (defArgs s_law_due) (defBody s_law_due) (defScope s_law_due) .none kV_law_due dc_law_due pm_law_due an_law_due cd_law_due ct_law_due), sl_law_due⟩)
    (c_law_due : PySem.W.codeIn K cd_law_due "_law_due" = true)
    (k_law_due : PySem.W.keepIn K (.ref f_law_due) = true)
    (a_law_read : PySem.W.nsIn K mainGlobals "_law_read" = some (some (.ref f_law_read)))
    (l_law_read : K.lookup f_law_read = some ⟨oc_law_read, od_law_read, .func (PySem.W.fnOf "_law_read" "_law_read" (defArgs s_law_read) (defBody s_law_read) (defScope s_law_read) .none kV_law_read dc_law_read pm_law_read an_law_read cd_law_read ct_law_read), sl_law_read⟩)
    (c_law_read : PySem.W.codeIn K cd_law_read "_law_read" = true)
    (k_law_read : PySem.W.keepIn K (.ref f_law_read) = true)
    (a_law_bent : PySem.W.nsIn K mainGlobals "_law_bent" = some (some (.ref f_law_bent)))
    (l_law_bent : K.lookup f_law_bent = some ⟨oc_law_bent, od_law_bent, .func (PySem.W.fnOf "_law_bent" "_law_bent" (defArgs s_law_bent) (defBody s_law_bent) (defScope s_law_bent) .none kV_law_bent dc_law_bent pm_law_bent an_law_bent cd_law_bent ct_law_bent), sl_law_bent⟩)
    (c_law_bent : PySem.W.codeIn K cd_law_bent "_law_bent" = true)
    (k_law_bent : PySem.W.keepIn K (.ref f_law_bent) = true)
    (a_law : PySem.W.nsIn K mainGlobals "law" = some (some (.ref f_law)))
    (l_law : K.lookup f_law = some ⟨oc_law, od_law, .func (PySem.W.fnOf "law" "law" (defArgs s_law) (defBody s_law) (defScope s_law) .none kV_law dc_law pm_law an_law cd_law ct_law), sl_law⟩)
    (c_law : PySem.W.codeIn K cd_law "law" = true)
    (k_law : PySem.W.keepIn K (.ref f_law) = true)
    (l_T : K.lookup fT = some ⟨cT, dT, .seq #[.bool true] nT, slT⟩)
    (v_CUT : PySem.W.nsIn K mainGlobals "CUT" = some (some (.str "cut" t_CUT)))
    (v_OUTER : PySem.W.nsIn K mainGlobals "OUTER" = some (some (.str "outer" t_OUTER)))
    (v_INNER : PySem.W.nsIn K mainGlobals "INNER" = some (some (.str "inner" t_INNER)))
    (v_JOIN : PySem.W.nsIn K mainGlobals "JOIN" = some (some (.str "join" t_JOIN)))
    (v_HALF : PySem.W.nsIn K mainGlobals "HALF" = some (some (.str "half" t_HALF)))
    (v_SPLIT : PySem.W.nsIn K mainGlobals "SPLIT" = some (some (.str "split" t_SPLIT)))
    (v_READ : PySem.W.nsIn K mainGlobals "READ" = some (some (.str "read" t_READ)))
    (v_AGAIN : PySem.W.nsIn K mainGlobals "AGAIN" = some (some (.str "again" t_AGAIN)))
    (v_HOLD : PySem.W.nsIn K mainGlobals "HOLD" = some (some (.str "hold" t_HOLD)))
    (v_IF : PySem.W.nsIn K mainGlobals "IF" = some (some (.str "if" t_IF)))
    (v_LONGER : PySem.W.nsIn K mainGlobals "LONGER" = some (some (.str "longer" t_LONGER)))
    (v_SAME : PySem.W.nsIn K mainGlobals "SAME" = some (some (.str "same" t_SAME)))
    (v_SHORTER : PySem.W.nsIn K mainGlobals "SHORTER" = some (some (.str "shorter" t_SHORTER)))
    (v_ELSE : PySem.W.nsIn K mainGlobals "ELSE" = some (some (.str "else" t_ELSE)))
    (v_END : PySem.W.nsIn K mainGlobals "END" = some (some (.str "end" t_END)))
    (v_MP : PySem.W.nsIn K mainGlobals "MOST_PART" = some (some (.int 1000000000000000000000000000000 tMP)))
    (v_NAMES : PySem.W.nsIn K mainGlobals "NAMES" = some (some (.ref f_NAMES)))
    (l_NAMES : K.lookup f_NAMES = some ⟨.type "tuple", d_NAMES, .seq #[.str "a" tNAMES0, .str "b" tNAMES1, .str "c" tNAMES2, .str "d" tNAMES3, .str "e" tNAMES4, .str "f" tNAMES5] n_NAMES, sl_NAMES⟩)
    (v_SEEN : PySem.W.nsIn K mainGlobals "SEEN" = some (some (.ref f_SEEN)))
    (l_SEEN : K.lookup f_SEEN = some ⟨.type "tuple", d_SEEN, .seq #[.str "longer" tSEEN0, .str "same" tSEEN1, .str "shorter" tSEEN2] n_SEEN, sl_SEEN⟩)
    (z_len : PySem.W.nsIn K mainGlobals "len" = some none)
    (z_abs : PySem.W.nsIn K mainGlobals "abs" = some none)
    (z_max : PySem.W.nsIn K mainGlobals "max" = some none)
    (z_min : PySem.W.nsIn K mainGlobals "min" = some none)
    (z_all : PySem.W.nsIn K mainGlobals "all" = some none)
    (z_int : PySem.W.nsIn K mainGlobals "int" = some none)
    (z_str : PySem.W.nsIn K mainGlobals "str" = some none)
    (z_list : PySem.W.nsIn K mainGlobals "list" = some none)
    (z_tuple : PySem.W.nsIn K mainGlobals "tuple" = some none)
    (z_bool : PySem.W.nsIn K mainGlobals "bool" = some none)
    (z_range : PySem.W.nsIn K mainGlobals "range" = some none)
    (z_enumerate : PySem.W.nsIn K mainGlobals "enumerate" = some none)
    (z_isinstance : PySem.W.nsIn K mainGlobals "isinstance" = some none)
    (z_sorted : PySem.W.nsIn K mainGlobals "sorted" = some none)
    (z_set : PySem.W.nsIn K mainGlobals "set" = some none)
    (z_zip : PySem.W.nsIn K mainGlobals "zip" = some none)
    (z_super : PySem.W.nsIn K mainGlobals "super" = some none)
    (e_C : PySem.W.nsIn K mainGlobals "InvalidText" = some (some (.ref C)))
    (e_cls : K.lookup C = some (PySem.excClassObj nm0 q0 C N0 bs0 [.ref CL, .type "ValueError", .type "Exception", .type "BaseException", .type "object"] true sn0 sub0 ab0 col0 dd0 m0 m1 m2 m3 m5 "ValueError.__new__"))
    (e_sa : PySem.W.findIn K (.ref C) "__setattr__" = some (some (.builtin "object.__setattr__")))
    (e_ga : PySem.W.findIn K (.ref C) "__getattribute__" = some (some (.builtin "BaseException.__getattribute__")))
    (e_gg : PySem.W.findIn K (.ref C) "__getattr__" = some none)
    (e_no : PySem.W.findIn K (.ref C) "line" = some none)
    (e_i : PySem.W.findIn K (.ref C) "__init__" = some (some (.ref fI)))
    (e_t : PySem.W.typeIn K (.ref fI) = some (.type "function"))
    (e_k : PySem.W.keepIn K (.ref C) = true)
    (e_ex : PySem.W.subIn K (.ref C) (.type "BaseException") = some true)
    (e_ve : PySem.W.subIn K (.ref C) (.type "ValueError") = some true)
    (e_ty : PySem.W.typeIn K (.ref C) = some (.type "type"))
    (e_hd : PySem.W.hasDictIn K C = true)
    (e_ic : PySem.W.isClsIn K C = true)
    (e_ss : PySem.W.subIn K (.ref C) (.ref C) = some true)
    (e_mr : PySem.W.mroIn K C (.ref C) = some true)
    (e_op : PySem.W.nsIn K PySem.cStatics "thirdparty.any" = some none)
    (e_up : PySem.W.ks_superIn K C C "__init__" = some (some (.builtin "ValueError.__init__")))
    (e_fn : K.lookup fI = some ⟨oc0, od0, .func (PySem.W.ksFn "__init__" "InvalidText.__init__" PySem.TxE.iA [PySem.TxE.iB1, PySem.TxE.iB2] PySem.TxE.iS .none .none dc0 pm0 an0 (.ref cda) ct0 cc), osl0⟩)
    (e_co : PySem.W.codeIn K (.ref cda) "InvalidText.__init__" = true)
    (e_ce : K.lookup cc = some ⟨cl0, cld0, .cell (some (.ref C)), csl0⟩)
    (e_cd : K.lookup cda = some ⟨ccl0, cdd0, .fields vs0, ccs0⟩)
    (e_f : vs0[2]? = some (.str P.main.file tf0))
    (e_top : (P.main.scope.names.lookup ("super" : PySem.Str)).isSome = false) :
    ∃ fd : FuncData, (∀ (s : Shared) (u : Value), BindsTo s fd ⟨[u], []⟩ [("_law_script_here", u)]) ∧ ∀ base : Heap, K.In base → base.Ns mainGlobals mg → FnOk P w K mg base CX0 40 fa fd ["_law_script_here"] (spLaw K) := by
  have e := hfa.symm.trans (PySem.W.mg_of X G a_law)
  cases e
  have M : ∀ {n : PySem.Str} {v : Value}, PySem.W.nsIn K mainGlobals n = some (some v) → mg n = some v := fun e => PySem.W.mg_of X G e
  have M0 : ∀ {n : PySem.Str}, PySem.W.nsIn K mainGlobals n = some none → mg n = none := fun e => PySem.W.mg_none_of X G e
  have TE : PySem.TxE.ErrTxt P K mg C fI cc cda :=
    { gC := M e_C, cls := ⟨_, _, _, _, _, _, _, _, _, _, _, _, _, _, _, e_cls, (show PySem.HandSPX.refsVE [.type "ValueError", .type "Exception", .type "BaseException", .type "object"] = true by decide +kernel)⟩, sa := e_sa, ga := e_ga, gg := e_gg, noN := e_no, iC := e_i, tC := e_t, kC := e_k, exC := e_ex, veC := e_ve, tyC := e_ty, hdC := e_hd, te := exm_self e_ex e_ic e_ty e_ss, sub := e_mr, op := e_op, up := e_up, noS := z_super,
      cell := ⟨_, _, _, e_ce⟩, code := ⟨_, _, _, _, _, e_cd, e_f⟩, top := e_top, fn := ⟨_, _, _, _, _, _, _, e_fn, e_co⟩ }
  have F_common := fun_mk (st := s_common) l_common c_common k_common
  have b_common := F_common.binds (ps := P_common) fun _ _ _ _ _ _ us hl => match us, hl with | [_, _], _ => rfl
  have F_lowest := fun_mk (st := s_lowest) l_lowest c_lowest k_lowest
  have b_lowest := F_lowest.binds (ps := P_lowest) fun _ _ _ _ _ _ us hl => match us, hl with | [_, _], _ => rfl
  have F_is_less := fun_mk (st := s_is_less) l_is_less c_is_less k_is_less
  have b_is_less := F_is_less.binds (ps := P_is_less) fun _ _ _ _ _ _ us hl => match us, hl with | [_, _], _ => rfl
  have F_is_integer := fun_mk (st := s_is_integer) l_is_integer c_is_integer k_is_integer
  have b_is_integer := F_is_integer.binds (ps := P_is_integer) fun _ _ _ _ _ _ us hl => match us, hl with | [_], _ => rfl
  have F_is_from := fun_mk (st := s_is_from) l_is_from c_is_from k_is_from
  have b_is_from := F_is_from.binds (ps := P_is_from) fun _ _ _ _ _ _ us hl => match us, hl with | [_, _, _], _ => rfl
  have F_is_tuple_of := fun_mk (st := s_is_tuple_of) l_is_tuple_of c_is_tuple_of k_is_tuple_of
  have b_is_tuple_of := F_is_tuple_of.binds (ps := P_is_tuple_of) fun _ _ _ _ _ _ us hl => match us, hl with | [_, _], _ => rfl
  have F_is_word := fun_mk (st := s_is_word) l_is_word c_is_word k_is_word
  have b_is_word := F_is_word.binds (ps := P_is_word) fun _ _ _ _ _ _ us hl => match us, hl with | [_, _], _ => rfl
  have F_is_any_fraction := fun_mk (st := s_is_any_fraction) l_is_any_fraction c_is_any_fraction k_is_any_fraction
  have b_is_any_fraction := F_is_any_fraction.binds (ps := P_is_any_fraction) fun _ _ _ _ _ _ us hl => match us, hl with | [_], _ => rfl
  have F_is_fraction := fun_mk (st := s_is_fraction) l_is_fraction c_is_fraction k_is_fraction
  have b_is_fraction := F_is_fraction.binds (ps := P_is_fraction) fun _ _ _ _ _ _ us hl => match us, hl with | [_, _], _ => rfl
  have F_are_bounds := fun_mk (st := s_are_bounds) l_are_bounds c_are_bounds k_are_bounds
  have b_are_bounds := F_are_bounds.binds (ps := P_are_bounds) fun _ _ _ _ _ _ us hl => match us, hl with | [_, _, _], _ => rfl
  have F_is_tape := fun_mk (st := s_is_tape) l_is_tape c_is_tape k_is_tape
  have b_is_tape := F_is_tape.binds (ps := P_is_tape) fun _ _ _ _ _ _ us hl => match us, hl with | [_], _ => rfl
  have F_is_world := fun_mk (st := s_is_world) l_is_world c_is_world k_is_world
  have b_is_world := F_is_world.binds (ps := P_is_world) fun _ _ _ _ _ _ us hl => match us, hl with | [_], _ => rfl
  have F_is_name := fun_mk (st := s_is_name) l_is_name c_is_name k_is_name
  have b_is_name := F_is_name.binds (ps := P_is_name) fun _ _ _ _ _ _ us hl => match us, hl with | [_], _ => rfl
  have F_is_mark := fun_mk (st := s_is_mark) l_is_mark c_is_mark k_is_mark
  have b_is_mark := F_is_mark.binds (ps := P_is_mark) fun _ _ _ _ _ _ us hl => match us, hl with | [_], _ => rfl
  have F_is_plain := fun_mk (st := s_is_plain) l_is_plain c_is_plain k_is_plain
  have b_is_plain := F_is_plain.binds (ps := P_is_plain) fun _ _ _ _ _ _ us hl => match us, hl with | [_, _], _ => rfl
  have F_is_body := fun_mk (st := s_is_body) l_is_body c_is_body k_is_body
  have b_is_body := F_is_body.binds (ps := P_is_body) fun _ _ _ _ _ _ us hl => match us, hl with | [_, _], _ => rfl
  have F_is_step : FunD K "is_step" "is_step" (defArgs s_is_step) (defBody s_is_step) (defScope s_is_step) [.bl true] [] f_is_step _ := ⟨⟨_, _, _, _, _, _, _, _, _, _, rfl, l_is_step, c_is_step, .inr ⟨by simp, fT, _, [.bool true], nT, rfl, l_T, rfl, .cons rfl .nil⟩, .inl rfl⟩, k_is_step⟩
  have b2 := F_is_step.binds1 (ps := P_is_step) 2 0 (by simp) rfl fun _ _ _ _ _ _ _ us its h1 h2 => match us, h1, its, h2 with | [_, _], _, [_], _ => ⟨_, rfl, rfl⟩
  have b3 := F_is_step.binds1 (ps := P_is_step) 3 1 (by simp) rfl fun _ _ _ _ _ _ _ us its h1 h2 => match us, h1, its, h2 with | [_, _, _], _, [_], _ => ⟨_, rfl, rfl⟩
  obtain ⟨ds2, r2, b2⟩ := b2
  obtain ⟨ds3, r3, b3⟩ := b3
  cases r3
  cases r2 with
  | cons r2 r2' =>
  cases r2'
  cases r2
  have F_all_steps := fun_mk (st := s_all_steps) l_all_steps c_all_steps k_all_steps
  have b_all_steps := F_all_steps.binds (ps := P_all_steps) fun _ _ _ _ _ _ us hl => match us, hl with | [_], _ => rfl
  have F_is_script_of := fun_mk (st := s_is_script_of) l_is_script_of c_is_script_of k_is_script_of
  have b_is_script_of := F_is_script_of.binds (ps := P_is_script_of) fun _ _ _ _ _ _ us hl => match us, hl with | [_, _], _ => rfl
  have F_need_world := fun_mk (st := s_need_world) l_need_world c_need_world k_need_world
  have b_need_world := F_need_world.binds (ps := P_need_world) fun _ _ _ _ _ _ us hl => match us, hl with | [_], _ => rfl
  have F_need_script := fun_mk (st := s_need_script) l_need_script c_need_script k_need_script
  have b_need_script := F_need_script.binds (ps := P_need_script) fun _ _ _ _ _ _ us hl => match us, hl with | [_, _], _ => rfl
  have F_lines_of := fun_mk (st := s_lines_of) l_lines_of c_lines_of k_lines_of
  have b_lines_of := F_lines_of.binds (ps := P_lines_of) fun _ _ _ _ _ _ us hl => match us, hl with | [_], _ => rfl
  have F_integer_of := fun_mk (st := s_integer_of) l_integer_of c_integer_of k_integer_of
  have b_integer_of := F_integer_of.binds (ps := P_integer_of) fun _ _ _ _ _ _ us hl => match us, hl with | [_], _ => rfl
  have F_step_of := fun_mk (st := s_step_of) l_step_of c_step_of k_step_of
  have b_step_of := F_step_of.binds (ps := P_step_of) fun _ _ _ _ _ _ us hl => match us, hl with | [_, _], _ => rfl
  have F_put_together := fun_mk (st := s_put_together) l_put_together c_put_together k_put_together
  have b_put_together := F_put_together.binds (ps := P_put_together) fun _ _ _ _ _ _ us hl => match us, hl with | [_], _ => rfl
  have F_script_read := fun_mk (st := s_script_read) l_script_read c_script_read k_script_read
  have b_script_read := F_script_read.binds (ps := P_script_read) fun _ _ _ _ _ _ us hl => match us, hl with | [_, _], _ => rfl
  have F_script_text := fun_mk (st := s_script_text) l_script_text c_script_text k_script_text
  have b_script_text := F_script_text.binds (ps := P_script_text) fun _ _ _ _ _ _ us hl => match us, hl with | [_, _], _ => rfl
  have F_read_script := fun_mk (st := s_read_script) l_read_script c_read_script k_read_script
  have b_read_script := F_read_script.binds (ps := P_read_script) fun _ _ _ _ _ _ us hl => match us, hl with | [_, _], _ => rfl
  have F_law_jar := fun_mk (st := s_law_jar) l_law_jar c_law_jar k_law_jar
  have b_law_jar := F_law_jar.binds (ps := P_law_jar) fun _ _ _ _ _ _ us hl => match us, hl with | [_, _], _ => rfl
  have F_law_dip := fun_mk (st := s_law_dip) l_law_dip c_law_dip k_law_dip
  have b_law_dip := F_law_dip.binds (ps := P_law_dip) fun _ _ _ _ _ _ us hl => match us, hl with | [_, _], _ => rfl
  have F_law_any_of := fun_mk (st := s_law_any_of) l_law_any_of c_law_any_of k_law_any_of
  have b_law_any_of := F_law_any_of.binds (ps := P_law_any_of) fun _ _ _ _ _ _ us hl => match us, hl with | [_, _], _ => rfl
  have F_law_low := fun_mk (st := s_law_low) l_law_low c_law_low k_law_low
  have b_law_low := F_law_low.binds (ps := P_law_low) fun _ _ _ _ _ _ us hl => match us, hl with | [_, _], _ => rfl
  have F_law_pair := fun_mk (st := s_law_pair) l_law_pair c_law_pair k_law_pair
  have b_law_pair := F_law_pair.binds (ps := P_law_pair) fun _ _ _ _ _ _ us hl => match us, hl with | [_, _, _, _], _ => rfl
  have F_law_world := fun_mk (st := s_law_world) l_law_world c_law_world k_law_world
  have b_law_world := F_law_world.binds (ps := P_law_world) fun _ _ _ _ _ _ us hl => match us, hl with | [_], _ => rfl
  have F_law_name := fun_mk (st := s_law_name) l_law_name c_law_name k_law_name
  have b_law_name := F_law_name.binds (ps := P_law_name) fun _ _ _ _ _ _ us hl => match us, hl with | [_, _], _ => rfl
  have F_law_plain := fun_mk (st := s_law_plain) l_law_plain c_law_plain k_law_plain
  have b_law_plain := F_law_plain.binds (ps := P_law_plain) fun _ _ _ _ _ _ us hl => match us, hl with | [_, _, _, _], _ => rfl
  have F_law_script := fun_mk (st := s_law_script) l_law_script c_law_script k_law_script
  have b_law_script := F_law_script.binds (ps := P_law_script) fun _ _ _ _ _ _ us hl => match us, hl with | [_, _, _, _], _ => rfl
  have F_law_kinds := fun_mk (st := s_law_kinds) l_law_kinds c_law_kinds k_law_kinds
  have b_law_kinds := F_law_kinds.binds (ps := P_law_kinds) fun _ _ _ _ _ _ us hl => match us, hl with | [], _ => rfl
  have F_law_lines := fun_mk (st := s_law_lines) l_law_lines c_law_lines k_law_lines
  have b_law_lines := F_law_lines.binds (ps := P_law_lines) fun _ _ _ _ _ _ us hl => match us, hl with | [_], _ => rfl
  have F_law_word_good := fun_mk (st := s_law_word_good) l_law_word_good c_law_word_good k_law_word_good
  have b_law_word_good := F_law_word_good.binds (ps := P_law_word_good) fun _ _ _ _ _ _ us hl => match us, hl with | [_, _, _], _ => rfl
  have F_law_line_good := fun_mk (st := s_law_line_good) l_law_line_good c_law_line_good k_law_line_good
  have b_law_line_good := F_law_line_good.binds (ps := P_law_line_good) fun _ _ _ _ _ _ us hl => match us, hl with | [_, _], _ => rfl
  have F_law_whole_good := fun_mk (st := s_law_whole_good) l_law_whole_good c_law_whole_good k_law_whole_good
  have b_law_whole_good := F_law_whole_good.binds (ps := P_law_whole_good) fun _ _ _ _ _ _ us hl => match us, hl with | [_], _ => rfl
  have F_law_due := fun_mk (st := s_law_due) l_law_due c_law_due k_law_due
  have b_law_due := F_law_due.binds (ps := P_law_due) fun _ _ _ _ _ _ us hl => match us, hl with | [_, _], _ => rfl
  have F_law_read := fun_mk (st := s_law_read) l_law_read c_law_read k_law_read
  have b_law_read := F_law_read.binds (ps := P_law_read) fun _ _ _ _ _ _ us hl => match us, hl with | [_, _], _ => rfl
  have F_law_bent := fun_mk (st := s_law_bent) l_law_bent c_law_bent k_law_bent
  have b_law_bent := F_law_bent.binds (ps := P_law_bent) fun _ _ _ _ _ _ us hl => match us, hl with | [_, _], _ => rfl
  have F_law := fun_mk (st := s_law) l_law c_law k_law
  have b_law := F_law.binds (ps := P_law) fun _ _ _ _ _ _ us hl => match us, hl with | [_], _ => rfl
  have T : Txt K mg ⟨f_common, f_lowest, f_is_less, f_is_integer, f_is_from, f_is_tuple_of, f_is_word, f_is_any_fraction, f_is_fraction, f_are_bounds, f_is_tape, f_is_world, f_is_name, f_is_mark, f_is_plain, f_is_body, f_is_step, f_all_steps, f_is_script_of, f_need_world, f_need_script, f_lines_of, f_integer_of, f_step_of, f_put_together, f_script_read, f_script_text, f_read_script, f_law_jar, f_law_dip, f_law_any_of, f_law_low, f_law_pair, f_law_world, f_law_name, f_law_plain, f_law_script, f_law_kinds, f_law_lines, f_law_word_good, f_law_line_good, f_law_whole_good, f_law_due, f_law_read, f_law_bent, fa, f_NAMES, f_SEEN, C, fI⟩ ⟨_, _, _, _, _, _, _, _, _, _, _, _, _, _, _, _, _, _, _, _, _, _, _, _, _, _, _, _, _, _, _, _, _, _, _, _, _, _, _, _, _, _, _, _, _, _, (PySem.W.fnOf "law" "law" (defArgs s_law) (defBody s_law) (defScope s_law) .none kV_law dc_law pm_law an_law cd_law ct_law)⟩ := {
    g_common := M a_common, k_common := k_common,
    F_common := F_common, b_common := b_common,
    g_lowest := M a_lowest, k_lowest := k_lowest,
    F_lowest := F_lowest, b_lowest := b_lowest,
    g_is_less := M a_is_less, k_is_less := k_is_less,
    F_is_less := F_is_less, b_is_less := b_is_less,
    g_is_integer := M a_is_integer, k_is_integer := k_is_integer,
    F_is_integer := F_is_integer, b_is_integer := b_is_integer,
    g_is_from := M a_is_from, k_is_from := k_is_from,
    F_is_from := F_is_from, b_is_from := b_is_from,
    g_is_tuple_of := M a_is_tuple_of, k_is_tuple_of := k_is_tuple_of,
    F_is_tuple_of := F_is_tuple_of, b_is_tuple_of := b_is_tuple_of,
    g_is_word := M a_is_word, k_is_word := k_is_word,
    F_is_word := F_is_word, b_is_word := b_is_word,
    g_is_any_fraction := M a_is_any_fraction, k_is_any_fraction := k_is_any_fraction,
    F_is_any_fraction := F_is_any_fraction, b_is_any_fraction := b_is_any_fraction,
    g_is_fraction := M a_is_fraction, k_is_fraction := k_is_fraction,
    F_is_fraction := F_is_fraction, b_is_fraction := b_is_fraction,
    g_are_bounds := M a_are_bounds, k_are_bounds := k_are_bounds,
    F_are_bounds := F_are_bounds, b_are_bounds := b_are_bounds,
    g_is_tape := M a_is_tape, k_is_tape := k_is_tape,
    F_is_tape := F_is_tape, b_is_tape := b_is_tape,
    g_is_world := M a_is_world, k_is_world := k_is_world,
    F_is_world := F_is_world, b_is_world := b_is_world,
    g_is_name := M a_is_name, k_is_name := k_is_name,
    F_is_name := F_is_name, b_is_name := b_is_name,
    g_is_mark := M a_is_mark, k_is_mark := k_is_mark,
    F_is_mark := F_is_mark, b_is_mark := b_is_mark,
    g_is_plain := M a_is_plain, k_is_plain := k_is_plain,
    F_is_plain := F_is_plain, b_is_plain := b_is_plain,
    g_is_body := M a_is_body, k_is_body := k_is_body,
    F_is_body := F_is_body, b_is_body := b_is_body,
    g_is_step := M a_is_step, k_is_step := k_is_step,
    F_is_step := F_is_step, bS2 := b2, bS3 := b3,
    g_all_steps := M a_all_steps, k_all_steps := k_all_steps,
    F_all_steps := F_all_steps, b_all_steps := b_all_steps,
    g_is_script_of := M a_is_script_of, k_is_script_of := k_is_script_of,
    F_is_script_of := F_is_script_of, b_is_script_of := b_is_script_of,
    g_need_world := M a_need_world, k_need_world := k_need_world,
    F_need_world := F_need_world, b_need_world := b_need_world,
    g_need_script := M a_need_script, k_need_script := k_need_script,
    F_need_script := F_need_script, b_need_script := b_need_script,
    g_lines_of := M a_lines_of, k_lines_of := k_lines_of,
    F_lines_of := F_lines_of, b_lines_of := b_lines_of,
    g_integer_of := M a_integer_of, k_integer_of := k_integer_of,
    F_integer_of := F_integer_of, b_integer_of := b_integer_of,
    g_step_of := M a_step_of, k_step_of := k_step_of,
    F_step_of := F_step_of, b_step_of := b_step_of,
    g_put_together := M a_put_together, k_put_together := k_put_together,
    F_put_together := F_put_together, b_put_together := b_put_together,
    g_script_read := M a_script_read, k_script_read := k_script_read,
    F_script_read := F_script_read, b_script_read := b_script_read,
    g_script_text := M a_script_text, k_script_text := k_script_text,
    F_script_text := F_script_text, b_script_text := b_script_text,
    g_read_script := M a_read_script, k_read_script := k_read_script,
    F_read_script := F_read_script, b_read_script := b_read_script,
    g_law_jar := M a_law_jar, k_law_jar := k_law_jar,
    F_law_jar := F_law_jar, b_law_jar := b_law_jar,
    g_law_dip := M a_law_dip, k_law_dip := k_law_dip,
    F_law_dip := F_law_dip, b_law_dip := b_law_dip,
    g_law_any_of := M a_law_any_of, k_law_any_of := k_law_any_of,
    F_law_any_of := F_law_any_of, b_law_any_of := b_law_any_of,
    g_law_low := M a_law_low, k_law_low := k_law_low,
    F_law_low := F_law_low, b_law_low := b_law_low,
    g_law_pair := M a_law_pair, k_law_pair := k_law_pair,
    F_law_pair := F_law_pair, b_law_pair := b_law_pair,
    g_law_world := M a_law_world, k_law_world := k_law_world,
    F_law_world := F_law_world, b_law_world := b_law_world,
    g_law_name := M a_law_name, k_law_name := k_law_name,
    F_law_name := F_law_name, b_law_name := b_law_name,
    g_law_plain := M a_law_plain, k_law_plain := k_law_plain,
    F_law_plain := F_law_plain, b_law_plain := b_law_plain,
    g_law_script := M a_law_script, k_law_script := k_law_script,
    F_law_script := F_law_script, b_law_script := b_law_script,
    g_law_kinds := M a_law_kinds, k_law_kinds := k_law_kinds,
    F_law_kinds := F_law_kinds, b_law_kinds := b_law_kinds,
    g_law_lines := M a_law_lines, k_law_lines := k_law_lines,
    F_law_lines := F_law_lines, b_law_lines := b_law_lines,
    g_law_word_good := M a_law_word_good, k_law_word_good := k_law_word_good,
    F_law_word_good := F_law_word_good, b_law_word_good := b_law_word_good,
    g_law_line_good := M a_law_line_good, k_law_line_good := k_law_line_good,
    F_law_line_good := F_law_line_good, b_law_line_good := b_law_line_good,
    g_law_whole_good := M a_law_whole_good, k_law_whole_good := k_law_whole_good,
    F_law_whole_good := F_law_whole_good, b_law_whole_good := b_law_whole_good,
    g_law_due := M a_law_due, k_law_due := k_law_due,
    F_law_due := F_law_due, b_law_due := b_law_due,
    g_law_read := M a_law_read, k_law_read := k_law_read,
    F_law_read := F_law_read, b_law_read := b_law_read,
    g_law_bent := M a_law_bent, k_law_bent := k_law_bent,
    F_law_bent := F_law_bent, b_law_bent := b_law_bent,
    g_law := M a_law, k_law := k_law,
    F_law := F_law, b_law := b_law,
    c_CUT := ⟨_, M v_CUT⟩,
    c_OUTER := ⟨_, M v_OUTER⟩,
    c_INNER := ⟨_, M v_INNER⟩,
    c_JOIN := ⟨_, M v_JOIN⟩,
    c_HALF := ⟨_, M v_HALF⟩,
    c_SPLIT := ⟨_, M v_SPLIT⟩,
    c_READ := ⟨_, M v_READ⟩,
    c_AGAIN := ⟨_, M v_AGAIN⟩,
    c_HOLD := ⟨_, M v_HOLD⟩,
    c_IF := ⟨_, M v_IF⟩,
    c_LONGER := ⟨_, M v_LONGER⟩,
    c_SAME := ⟨_, M v_SAME⟩,
    c_SHORTER := ⟨_, M v_SHORTER⟩,
    c_ELSE := ⟨_, M v_ELSE⟩,
    c_END := ⟨_, M v_END⟩,
    c_MOST_PART := ⟨_, (M v_MP).trans (by rw [show (10 ^ 30 : Int) = 1000000000000000000000000000000 by decide])⟩,
    c_NAMES := M v_NAMES, t_NAMES := fun H => .inr ⟨_, _, _, l_NAMES, rfl, rfl, by show 6 ≤ sizeLine; decide, .cons ⟨_, rfl⟩ (.cons ⟨_, rfl⟩ (.cons ⟨_, rfl⟩ (.cons ⟨_, rfl⟩ (.cons ⟨_, rfl⟩ (.cons ⟨_, rfl⟩ (.nil))))))⟩,
    c_SEEN := M v_SEEN, t_SEEN := fun H => .inr ⟨_, _, _, l_SEEN, rfl, rfl, by show 3 ≤ sizeLine; decide, .cons ⟨_, rfl⟩ (.cons ⟨_, rfl⟩ (.cons ⟨_, rfl⟩ (.nil)))⟩,
    len := M0 z_len,
    abs := M0 z_abs,
    max := M0 z_max,
    min := M0 z_min,
    all := M0 z_all,
    int := M0 z_int,
    str := M0 z_str,
    list := M0 z_list,
    tuple := M0 z_tuple,
    bool := M0 z_bool,
    range := M0 z_range,
    enumerate := M0 z_enumerate,
    isinstance := M0 z_isinstance,
    sorted := M0 z_sorted,
    set := M0 z_set,
    zip := M0 z_zip }
  exact ⟨_, fun s v => .of_eq rfl, fun base _ _ => ok_law laws T TE⟩
end CL
open PySem PySem.W PyProof.Rows
set_option maxRecDepth 100000 in
set_option maxHeartbeats 0 in
theorem PySem.Challenge.cw_copiedlengths_k12_whole_texts_of_scripts_holds : PySem.Challenge.rw_copiedlengths_k12_whole_texts_of_scripts.Holds := by
  w_on; o_law; k_head; (case hw => w_witness2)
  k_fill
  refine CL.walk (l := PySem.Challenge.rw_copiedlengths_k12_whole_texts_of_scripts) rfl rfl (fun w h Y => PySem.W.kIn_of Y) ?F
  case F =>
    intro w mg fa h KX G hmg
    refine' CL.all_mk KX G hmg ?a_common ?l_common ?c_common ?k_common ?a_lowest ?l_lowest ?c_lowest ?k_lowest ?a_is_less ?l_is_less ?c_is_less ?k_is_less ?a_is_integer ?l_is_integer ?c_is_integer ?k_is_integer ?a_is_from ?l_is_from ?c_is_from ?k_is_from ?a_is_tuple_of ?l_is_tuple_of ?c_is_tuple_of ?k_is_tuple_of ?a_is_word ?l_is_word ?c_is_word ?k_is_word ?a_is_any_fraction ?l_is_any_fraction ?c_is_any_fraction ?k_is_any_fraction ?a_is_fraction ?l_is_fraction ?c_is_fraction ?k_is_fraction ?a_are_bounds ?l_are_bounds ?c_are_bounds ?k_are_bounds ?a_is_tape ?l_is_tape ?c_is_tape ?k_is_tape ?a_is_world ?l_is_world ?c_is_world ?k_is_world ?a_is_name ?l_is_name ?c_is_name ?k_is_name ?a_is_mark ?l_is_mark ?c_is_mark ?k_is_mark ?a_is_plain ?l_is_plain ?c_is_plain ?k_is_plain ?a_is_body ?l_is_body ?c_is_body ?k_is_body ?a_is_step ?l_is_step ?c_is_step ?k_is_step ?a_all_steps ?l_all_steps ?c_all_steps ?k_all_steps ?a_is_script_of ?l_is_script_of ?c_is_script_of ?k_is_script_of ?a_need_world ?l_need_world ?c_need_world ?k_need_world ?a_need_script ?l_need_script ?c_need_script ?k_need_script ?a_lines_of ?l_lines_of ?c_lines_of ?k_lines_of ?a_integer_of ?l_integer_of ?c_integer_of ?k_integer_of ?a_step_of ?l_step_of ?c_step_of ?k_step_of ?a_put_together ?l_put_together ?c_put_together ?k_put_together ?a_script_read ?l_script_read ?c_script_read ?k_script_read ?a_script_text ?l_script_text ?c_script_text ?k_script_text ?a_read_script ?l_read_script ?c_read_script ?k_read_script ?a_law_jar ?l_law_jar ?c_law_jar ?k_law_jar ?a_law_dip ?l_law_dip ?c_law_dip ?k_law_dip ?a_law_any_of ?l_law_any_of ?c_law_any_of ?k_law_any_of ?a_law_low ?l_law_low ?c_law_low ?k_law_low ?a_law_pair ?l_law_pair ?c_law_pair ?k_law_pair ?a_law_world ?l_law_world ?c_law_world ?k_law_world ?a_law_name ?l_law_name ?c_law_name ?k_law_name ?a_law_plain ?l_law_plain ?c_law_plain ?k_law_plain ?a_law_script ?l_law_script ?c_law_script ?k_law_script ?a_law_kinds ?l_law_kinds ?c_law_kinds ?k_law_kinds ?a_law_lines ?l_law_lines ?c_law_lines ?k_law_lines ?a_law_word_good ?l_law_word_good ?c_law_word_good ?k_law_word_good ?a_law_line_good ?l_law_line_good ?c_law_line_good ?k_law_line_good ?a_law_whole_good ?l_law_whole_good ?c_law_whole_good ?k_law_whole_good ?a_law_due ?l_law_due ?c_law_due ?k_law_due ?a_law_read ?l_law_read ?c_law_read ?k_law_read ?a_law_bent ?l_law_bent ?c_law_bent ?k_law_bent ?a_law ?l_law ?c_law ?k_law ?l_T ?v_CUT ?v_OUTER ?v_INNER ?v_JOIN ?v_HALF ?v_SPLIT ?v_READ ?v_AGAIN ?v_HOLD ?v_IF ?v_LONGER ?v_SAME ?v_SHORTER ?v_ELSE ?v_END ?v_MP ?v_NAMES ?l_NAMES ?v_SEEN ?l_SEEN ?z_len ?z_abs ?z_max ?z_min ?z_all ?z_int ?z_str ?z_list ?z_tuple ?z_bool ?z_range ?z_enumerate ?z_isinstance ?z_sorted ?z_set ?z_zip ?z_super ?e_C ?e_cls ?e_sa ?e_ga ?e_gg ?e_no ?e_i ?e_t ?e_k ?e_ex ?e_ve ?e_ty ?e_hd ?e_ic ?e_ss ?e_mr ?e_op ?e_up ?e_fn ?e_co ?e_ce ?e_cd ?e_f ?e_top
    (case a_common => k_is)
    (case l_common => k_is)
    (case c_common => k_is)
    (case k_common => k_is)
    (case a_lowest => k_is)
    (case l_lowest => k_is)
    (case c_lowest => k_is)
    (case k_lowest => k_is)
    (case a_is_less => k_is)
    (case l_is_less => k_is)
    (case c_is_less => k_is)
    (case k_is_less => k_is)
    (case a_is_integer => k_is)
    (case l_is_integer => k_is)
    (case c_is_integer => k_is)
    (case k_is_integer => k_is)
    (case a_is_from => k_is)
    (case l_is_from => k_is)
    (case c_is_from => k_is)
    (case k_is_from => k_is)
    (case a_is_tuple_of => k_is)
    (case l_is_tuple_of => k_is)
    (case c_is_tuple_of => k_is)
    (case k_is_tuple_of => k_is)
    (case a_is_word => k_is)
    (case l_is_word => k_is)
    (case c_is_word => k_is)
    (case k_is_word => k_is)
    (case a_is_any_fraction => k_is)
    (case l_is_any_fraction => k_is)
    (case c_is_any_fraction => k_is)
    (case k_is_any_fraction => k_is)
    (case a_is_fraction => k_is)
    (case l_is_fraction => k_is)
    (case c_is_fraction => k_is)
    (case k_is_fraction => k_is)
    (case a_are_bounds => k_is)
    (case l_are_bounds => k_is)
    (case c_are_bounds => k_is)
    (case k_are_bounds => k_is)
    (case a_is_tape => k_is)
    (case l_is_tape => k_is)
    (case c_is_tape => k_is)
    (case k_is_tape => k_is)
    (case a_is_world => k_is)
    (case l_is_world => k_is)
    (case c_is_world => k_is)
    (case k_is_world => k_is)
    (case a_is_name => k_is)
    (case l_is_name => k_is)
    (case c_is_name => k_is)
    (case k_is_name => k_is)
    (case a_is_mark => k_is)
    (case l_is_mark => k_is)
    (case c_is_mark => k_is)
    (case k_is_mark => k_is)
    (case a_is_plain => k_is)
    (case l_is_plain => k_is)
    (case c_is_plain => k_is)
    (case k_is_plain => k_is)
    (case a_is_body => k_is)
    (case l_is_body => k_is)
    (case c_is_body => k_is)
    (case k_is_body => k_is)
    (case a_is_step => k_is)
    (case l_is_step => k_is)
    (case c_is_step => k_is)
    (case k_is_step => k_is)
    (case a_all_steps => k_is)
    (case l_all_steps => k_is)
    (case c_all_steps => k_is)
    (case k_all_steps => k_is)
    (case a_is_script_of => k_is)
    (case l_is_script_of => k_is)
    (case c_is_script_of => k_is)
    (case k_is_script_of => k_is)
    (case a_need_world => k_is)
    (case l_need_world => k_is)
    (case c_need_world => k_is)
    (case k_need_world => k_is)
    (case a_need_script => k_is)
    (case l_need_script => k_is)
    (case c_need_script => k_is)
    (case k_need_script => k_is)
    (case a_lines_of => k_is)
    (case l_lines_of => k_is)
    (case c_lines_of => k_is)
    (case k_lines_of => k_is)
    (case a_integer_of => k_is)
    (case l_integer_of => k_is)
    (case c_integer_of => k_is)
    (case k_integer_of => k_is)
    (case a_step_of => k_is)
    (case l_step_of => k_is)
    (case c_step_of => k_is)
    (case k_step_of => k_is)
    (case a_put_together => k_is)
    (case l_put_together => k_is)
    (case c_put_together => k_is)
    (case k_put_together => k_is)
    (case a_script_read => k_is)
    (case l_script_read => k_is)
    (case c_script_read => k_is)
    (case k_script_read => k_is)
    (case a_script_text => k_is)
    (case l_script_text => k_is)
    (case c_script_text => k_is)
    (case k_script_text => k_is)
    (case a_read_script => k_is)
    (case l_read_script => k_is)
    (case c_read_script => k_is)
    (case k_read_script => k_is)
    (case a_law_jar => k_is)
    (case l_law_jar => k_is)
    (case c_law_jar => k_is)
    (case k_law_jar => k_is)
    (case a_law_dip => k_is)
    (case l_law_dip => k_is)
    (case c_law_dip => k_is)
    (case k_law_dip => k_is)
    (case a_law_any_of => k_is)
    (case l_law_any_of => k_is)
    (case c_law_any_of => k_is)
    (case k_law_any_of => k_is)
    (case a_law_low => k_is)
    (case l_law_low => k_is)
    (case c_law_low => k_is)
    (case k_law_low => k_is)
    (case a_law_pair => k_is)
    (case l_law_pair => k_is)
    (case c_law_pair => k_is)
    (case k_law_pair => k_is)
    (case a_law_world => k_is)
    (case l_law_world => k_is)
    (case c_law_world => k_is)
    (case k_law_world => k_is)
    (case a_law_name => k_is)
    (case l_law_name => k_is)
    (case c_law_name => k_is)
    (case k_law_name => k_is)
    (case a_law_plain => k_is)
    (case l_law_plain => k_is)
    (case c_law_plain => k_is)
    (case k_law_plain => k_is)
    (case a_law_script => k_is)
    (case l_law_script => k_is)
    (case c_law_script => k_is)
    (case k_law_script => k_is)
    (case a_law_kinds => k_is)
    (case l_law_kinds => k_is)
    (case c_law_kinds => k_is)
    (case k_law_kinds => k_is)
    (case a_law_lines => k_is)
    (case l_law_lines => k_is)
    (case c_law_lines => k_is)
    (case k_law_lines => k_is)
    (case a_law_word_good => k_is)
    (case l_law_word_good => k_is)
    (case c_law_word_good => k_is)
    (case k_law_word_good => k_is)
    (case a_law_line_good => k_is)
    (case l_law_line_good => k_is)
    (case c_law_line_good => k_is)
    (case k_law_line_good => k_is)
    (case a_law_whole_good => k_is)
    (case l_law_whole_good => k_is)
    (case c_law_whole_good => k_is)
    (case k_law_whole_good => k_is)
    (case a_law_due => k_is)
    (case l_law_due => k_is)
    (case c_law_due => k_is)
    (case k_law_due => k_is)
    (case a_law_read => k_is)
    (case l_law_read => k_is)
    (case c_law_read => k_is)
    (case k_law_read => k_is)
    (case a_law_bent => k_is)
    (case l_law_bent => k_is)
    (case c_law_bent => k_is)
    (case k_law_bent => k_is)
    (case a_law => k_is)
    (case l_law => k_is)
    (case c_law => k_is)
    (case k_law => k_is)
    (case l_T => k_is)
    (case v_CUT => k_is)
    (case v_OUTER => k_is)
    (case v_INNER => k_is)
    (case v_JOIN => k_is)
    (case v_HALF => k_is)
    (case v_SPLIT => k_is)
    (case v_READ => k_is)
    (case v_AGAIN => k_is)
    (case v_HOLD => k_is)
    (case v_IF => k_is)
    (case v_LONGER => k_is)
    (case v_SAME => k_is)
    (case v_SHORTER => k_is)
    (case v_ELSE => k_is)
    (case v_END => k_is)
    (case v_MP => k_is)
    (case v_NAMES => k_is)
    (case l_NAMES => k_is)
    (case v_SEEN => k_is)
    (case l_SEEN => k_is)
    (case z_len => k_is)
    (case z_abs => k_is)
    (case z_max => k_is)
    (case z_min => k_is)
    (case z_all => k_is)
    (case z_int => k_is)
    (case z_str => k_is)
    (case z_list => k_is)
    (case z_tuple => k_is)
    (case z_bool => k_is)
    (case z_range => k_is)
    (case z_enumerate => k_is)
    (case z_isinstance => k_is)
    (case z_sorted => k_is)
    (case z_set => k_is)
    (case z_zip => k_is)
    (case z_super => k_is)
    (case e_C => k_is)
    (case e_cls => k_is)
    (case e_sa => k_is)
    (case e_ga => k_is)
    (case e_gg => k_is)
    (case e_no => k_is)
    (case e_i => k_is)
    (case e_t => k_is)
    (case e_k => k_is)
    (case e_ex => k_is)
    (case e_ve => k_is)
    (case e_ty => k_is)
    (case e_hd => k_is)
    (case e_ic => k_is)
    (case e_ss => first | rfl | k_is)
    (case e_mr => first | k_is | rfl)
    (case e_op => k_is)
    (case e_up => ks_is)
    (case e_fn => k_is)
    (case e_co => k_is)
    (case e_ce => k_is)
    (case e_cd => k_is)
    (case e_f => rfl)
    (case e_top => rfl)
#print axioms PySem.Challenge.cw_copiedlengths_k12_whole_texts_of_scripts_holds
