import PyProof.Rows.All
import Wide.All
import OpenK.AllK
import Wide.FinOn
import PyProof.EqAt
import PyProof.EqKinds
import PyProof.TupleCall
import HandS.ForMost
import HandS.ForExc
import HandS.TupAny
import HandS.Deep
import HandS.Wide
import HandS.Iter
import HandS.RaiseMore
import HandS.ExcIs
import HandS.Codes
import PySem.Challenge.RW_sayswho_k10_boxes_and_measures
set_option Elab.async false
set_option linter.all false
set_option maxRecDepth 100000
set_option maxHeartbeats 4000000
/-! DL0: data trees D, owned trees S, what represents them in an abstract heap, and the state assertion Good with its small separation rules. -/
namespace DL
open PySem L2
open Classical

abbrev AS := Addr → Prop
noncomputable def mask (H : Hp) (M : AS) : Hp := fun a => if M a then none else H a
/-- what may be read stays readable -/
def Rx (H H' : Hp) : Prop := ∀ a u, Rd H a u → Rd H' a u
theorem Rx.refl (H : Hp) : Rx H H := fun _ _ h => h
theorem Rx.trans {H H1 H2 : Hp} (a : Rx H H1) (b : Rx H1 H2) : Rx H H2 := fun x u h => b x u (a x u h)
theorem Rx.of_same {H H' : Hp} (h : ∀ a o, H a = some o → H' a = some o) : Rx H H' := fun a u r => by
  rcases r with r | ⟨o, r⟩
  · exact .inl (h _ _ r)
  · exact .inr ⟨o, h _ _ r⟩
/-- all that stood stands -/
def Gro (H H' : Hp) : Prop := ∀ a o, H a = some o → H' a = some o
theorem Gro.refl (H : Hp) : Gro H H := fun _ _ h => h
theorem Gro.trans {H H1 H2 : Hp} (a : Gro H H1) (b : Gro H1 H2) : Gro H H2 := fun x o h => b x o (a x o h)
theorem Gro.new {H : Hp} {p : Addr} {o : HO} (h : H p = none) : Gro H (upd H p o) := fun a u e => by rw [upd_ne (ne_of_none e h)]; exact e
theorem Gro.rx {H H' : Hp} (g : Gro H H') : Rx H H' := Rx.of_same g
theorem mask_in {H : Hp} {M : AS} {a : Addr} (h : M a) : mask H M a = none := if_pos h
theorem mask_out {H : Hp} {M : AS} {a : Addr} (h : ¬ M a) : mask H M a = H a := if_neg h
theorem mask_some {H : Hp} {M : AS} {a : Addr} {o : HO} (h : mask H M a = some o) : ¬ M a ∧ H a = some o := by
  by_cases m : M a
  · rw [mask_in m] at h; cases h
  · rw [mask_out m] at h; exact ⟨m, h⟩
theorem Gro.unmask {H : Hp} {M M' : AS} (h : ∀ a, M' a → M a) : Gro (mask H M) (mask H M') := fun a o e => by
  obtain ⟨n, e'⟩ := mask_some e
  rw [mask_out fun z => n (h a z)]; exact e'
theorem Rx.unmask {H : Hp} {M M' : AS} (h : ∀ a, M' a → M a) : Rx (mask H M) (mask H M') := (Gro.unmask h).rx
theorem Gro.mask {H H' : Hp} {M : AS} (g : Gro H H') : Gro (mask H M) (mask H' M) := fun a o e => by
  obtain ⟨n, e'⟩ := mask_some e
  rw [mask_out n]; exact g _ _ e'
theorem Rx.full {H : Hp} {M : AS} : Rx (mask H M) H := Rx.of_same fun a o e => (mask_some e).2

/-- data: never changed -/
inductive D where
  | non | bl (b : Bool) | int (i : Int) | str (s : Str) | tup (ds : List D) | lst (ds : List D) | dic (ks : List D) (vs : List D) | ref (a : Addr)
def keyD : Key → D
  | .inl i => .int i
  | .inr s => .str s
/-- a dict at a that is read: its keys, its values -/
def DicAt (H : Hp) (a : Addr) (ks : List D) (vs : List V) : Prop :=
  ∃ kvs : List (Key × V), Rd H a (.dK kvs) ∧ ks = kvs.map (fun p => keyD p.1) ∧ vs = kvs.map (·.2)
/-- a dict at a that may be changed -/
def DicOwn (H : Hp) (a : Addr) (ks : List D) (vs : List V) : Prop :=
  ∃ kvs : List (Key × V), H a = some (.dK kvs) ∧ ks = kvs.map (fun p => keyD p.1) ∧ vs = kvs.map (·.2)
theorem DicAt.mono {H H' : Hp} {a : Addr} {ks : List D} {vs : List V} (e : Rx H H') (h : DicAt H a ks vs) : DicAt H' a ks vs :=
  let ⟨k, r, x, y⟩ := h; ⟨k, e _ _ r, x, y⟩
theorem DicOwn.at {H : Hp} {a : Addr} {ks : List D} {vs : List V} (h : DicOwn H a ks vs) : DicAt H a ks vs :=
  let ⟨k, r, x, y⟩ := h; ⟨k, .inl r, x, y⟩

mutual
def TR (K : PySem.W.Frag) (H : Hp) : D → V → Prop
  | .non, v => v = .non
  | .bl b, v => v = .bl b
  | .int i, v => v = .int i
  | .str s, v => v = .str s
  | .tup ds, v => ∃ a vs, v = .ref a ∧ SqT K H a vs ∧ TRs K H ds vs
  | .lst ds, v => ∃ a vs, v = .ref a ∧ SqL K H a vs ∧ TRs K H ds vs
  | .dic ks ds, v => ∃ a vs, v = .ref a ∧ DicAt H a ks vs ∧ TRs K H ds vs
  | .ref a, v => v = .ref a
def TRs (K : PySem.W.Frag) (H : Hp) : List D → List V → Prop
  | [], vs => vs = []
  | d :: ds, vs => ∃ v r, vs = v :: r ∧ TR K H d v ∧ TRs K H ds r
end
section
variable {K : PySem.W.Frag} {H H' : Hp}
theorem seqL_mono {a : Addr} {xs : List V} (e : Rx H H') (h : SqL K H a xs) : SqL K H' a xs := by
  rcases h with h | h
  · exact .inl (e _ _ h)
  · exact .inr h
theorem seqT_mono {a : Addr} {xs : List V} (e : Rx H H') (h : SqT K H a xs) : SqT K H' a xs := by
  rcases h with h | h
  · exact .inl (e _ _ h)
  · exact .inr h
mutual
theorem TR.mono (e : Rx H H') : ∀ (d : D) (v : V), TR K H d v → TR K H' d v
  | .non, _, h => by rw [TR] at *; exact h
  | .bl _, _, h => by rw [TR] at *; exact h
  | .int _, _, h => by rw [TR] at *; exact h
  | .str _, _, h => by rw [TR] at *; exact h
  | .tup ds, _, h => by rw [TR] at *; obtain ⟨a, vs, x, y, z⟩ := h; exact ⟨a, vs, x, seqT_mono e y, TRs.mono e ds vs z⟩
  | .lst ds, _, h => by rw [TR] at *; obtain ⟨a, vs, x, y, z⟩ := h; exact ⟨a, vs, x, seqL_mono e y, TRs.mono e ds vs z⟩
  | .dic ks ds, _, h => by rw [TR] at *; obtain ⟨a, vs, x, y, z⟩ := h; exact ⟨a, vs, x, y.mono e, TRs.mono e ds vs z⟩
  | .ref _, _, h => by rw [TR] at *; exact h
theorem TRs.mono (e : Rx H H') : ∀ (ds : List D) (vs : List V), TRs K H ds vs → TRs K H' ds vs
  | [], _, h => by rw [TRs] at *; exact h
  | d :: ds, _, h => by rw [TRs] at *; obtain ⟨v, r, x, y, z⟩ := h; exact ⟨v, r, x, TR.mono e d v y, TRs.mono e ds r z⟩
end
theorem trs_nil : TRs K H [] [] := by rw [TRs]
theorem trs_cons {d : D} {ds : List D} {v : V} {vs : List V} (a : TR K H d v) (b : TRs K H ds vs) : TRs K H (d :: ds) (v :: vs) := by rw [TRs]; exact ⟨v, vs, rfl, a, b⟩
theorem TRs.len : ∀ {ds : List D} {vs : List V}, TRs K H ds vs → ds.length = vs.length
  | [], vs, h => by rw [TRs] at h; subst h; rfl
  | d :: ds, vs, h => by rw [TRs] at h; obtain ⟨v, r, rfl, _, z⟩ := h; simp [TRs.len z]
theorem TRs.get : ∀ {ds : List D} {vs : List V} {i : Nat} {d : D}, TRs K H ds vs → ds[i]? = some d → ∃ v, vs[i]? = some v ∧ TR K H d v
  | [], vs, i, d, h, e => by simp at e
  | x :: ds, vs, 0, d, h, e => by rw [TRs] at h; obtain ⟨v, r, rfl, y, z⟩ := h; simp at e; subst e; exact ⟨v, rfl, y⟩
  | x :: ds, vs, i + 1, d, h, e => by
    rw [TRs] at h; obtain ⟨v, r, rfl, y, z⟩ := h
    obtain ⟨u, h1, h2⟩ := TRs.get (i := i) (d := d) z (by simpa using e)
    exact ⟨u, by simpa using h1, h2⟩
theorem TRs.append : ∀ {ds es : List D} {vs us : List V}, TRs K H ds vs → TRs K H es us → TRs K H (ds ++ es) (vs ++ us)
  | [], es, vs, us, h, g => by rw [TRs] at h; subst h; exact g
  | d :: ds, es, vs, us, h, g => by
    rw [TRs] at h; obtain ⟨v, r, rfl, y, z⟩ := h
    exact trs_cons y (TRs.append z g)
theorem TRs.take : ∀ {ds : List D} {vs : List V} (n : Nat), TRs K H ds vs → TRs K H (ds.take n) (vs.take n)
  | [], vs, n, h => by rw [TRs] at h; subst h; simp [trs_nil]
  | d :: ds, vs, 0, h => by simp [trs_nil]
  | d :: ds, vs, n + 1, h => by
    rw [TRs] at h; obtain ⟨v, r, rfl, y, z⟩ := h
    simpa using trs_cons y (TRs.take n z)
theorem TRs.drop : ∀ {ds : List D} {vs : List V} (n : Nat), TRs K H ds vs → TRs K H (ds.drop n) (vs.drop n)
  | ds, vs, 0, h => by simpa using h
  | [], vs, n + 1, h => by rw [TRs] at h; subst h; simp [trs_nil]
  | d :: ds, vs, n + 1, h => by
    rw [TRs] at h; obtain ⟨v, r, rfl, y, z⟩ := h
    simpa using TRs.drop n z
theorem TRs.rev {ds : List D} {vs : List V} (h : TRs K H ds vs) : TRs K H ds.reverse vs.reverse := by
  induction ds generalizing vs with
  | nil => rw [TRs] at h; subst h; simp [trs_nil]
  | cons d ds ih =>
    rw [TRs] at h; obtain ⟨v, r, rfl, y, z⟩ := h
    simpa using TRs.append (ih z) (trs_cons y trs_nil)
end

/-- a tree whose inner objects are one holder's own; its leaves are data -/
inductive S where
  | dat (d : D) | lst (xs : List S) | dic (ks : List D) (vs : List S) | ins (c : Str) (ns : List Str) (vs : List S)
mutual
/-- as data -/
def S.er : S → Option D
  | .dat d => some d
  | .lst xs => (S.ers xs).map .lst
  | .dic ks vs => (S.ers vs).map (.dic ks)
  | .ins _ _ _ => none
def S.ers : List S → Option (List D)
  | [] => some []
  | x :: xs => match S.er x, S.ers xs with
    | some d, some ds => some (d :: ds)
    | _, _ => none
end
structure Ctx where
  K : PySem.W.Frag
  ca : Str → Addr
mutual
def OR (c : Ctx) (Hd H : Hp) : S → V → AS → Prop
  | .dat d, v, _ => TR c.K Hd d v
  | .lst xs, v, A => ∃ (a : Addr) (vs : List V) (B : AS), v = .ref a ∧ H a = some (.lst vs) ∧ A a ∧ ¬ B a ∧ (∀ x, B x → A x) ∧ ORs c Hd H xs vs B
  | .dic ks xs, v, A => ∃ (a : Addr) (vs : List V) (B : AS), v = .ref a ∧ DicOwn H a ks vs ∧ A a ∧ ¬ B a ∧ (∀ x, B x → A x) ∧ ORs c Hd H xs vs B
  | .ins k ns xs, v, A => ∃ (a dx : Addr) (vs : List V) (B : AS), v = .ref a ∧ H a = some (.ins (c.ca k) dx (ns.zip vs)) ∧ vs.length = ns.length ∧ A a ∧ ¬ B a ∧ (∀ x, B x → A x) ∧ ORs c Hd H xs vs B
def ORs (c : Ctx) (Hd H : Hp) : List S → List V → AS → Prop
  | [], vs, _ => vs = []
  | x :: xs, vs, A => ∃ (v : V) (r : List V) (A1 A2 : AS), vs = v :: r ∧ OR c Hd H x v A1 ∧ ORs c Hd H xs r A2 ∧ (∀ a, A1 a → A2 a → False) ∧ (∀ a, A1 a → A a) ∧ (∀ a, A2 a → A a)
end
section
variable {c : Ctx} {Hd Hd' H H' : Hp}
mutual
theorem OR.frame (ed : Rx Hd Hd') : ∀ (s : S) (v : V) (A : AS), (∀ a, A a → H' a = H a) → OR c Hd H s v A → OR c Hd' H' s v A
  | .dat d, v, A, k, h => by rw [OR] at *; exact TR.mono ed d v h
  | .lst xs, v, A, k, h => by
    rw [OR] at *; obtain ⟨a, vs, B, x, y, z, nb, sub, r⟩ := h
    exact ⟨a, vs, B, x, (k a z).trans y, z, nb, sub, ORs.frame ed xs vs B (fun b hb => k b (sub b hb)) r⟩
  | .dic ks xs, v, A, k, h => by
    rw [OR] at *; obtain ⟨a, vs, B, x, ⟨kvs, y, y2, y3⟩, z, nb, sub, r⟩ := h
    exact ⟨a, vs, B, x, ⟨kvs, (k a z).trans y, y2, y3⟩, z, nb, sub, ORs.frame ed xs vs B (fun b hb => k b (sub b hb)) r⟩
  | .ins q ns xs, v, A, k, h => by
    rw [OR] at *; obtain ⟨a, dx, vs, B, x, y, l, z, nb, sub, r⟩ := h
    exact ⟨a, dx, vs, B, x, (k a z).trans y, l, z, nb, sub, ORs.frame ed xs vs B (fun b hb => k b (sub b hb)) r⟩
theorem ORs.frame (ed : Rx Hd Hd') : ∀ (xs : List S) (vs : List V) (A : AS), (∀ a, A a → H' a = H a) → ORs c Hd H xs vs A → ORs c Hd' H' xs vs A
  | [], vs, A, k, h => by rw [ORs] at *; exact h
  | x :: xs, vs, A, k, h => by
    rw [ORs] at *; obtain ⟨v, r, A1, A2, e, y, z, dj, s1, s2⟩ := h
    exact ⟨v, r, A1, A2, e, OR.frame ed x v A1 (fun a ha => k a (s1 a ha)) y, ORs.frame ed xs r A2 (fun a ha => k a (s2 a ha)) z, dj, s1, s2⟩
end
mutual
theorem OR.gro (ed : Rx Hd Hd') (g : Gro H H') : ∀ (s : S) (v : V) (A : AS), OR c Hd H s v A → OR c Hd' H' s v A
  | .dat d, v, A, h => by rw [OR] at *; exact TR.mono ed d v h
  | .lst xs, v, A, h => by
    rw [OR] at *; obtain ⟨a, vs, B, x, y, z, nb, sub, r⟩ := h
    exact ⟨a, vs, B, x, g _ _ y, z, nb, sub, ORs.gro ed g xs vs B r⟩
  | .dic ks xs, v, A, h => by
    rw [OR] at *; obtain ⟨a, vs, B, x, ⟨kvs, y, y2, y3⟩, z, nb, sub, r⟩ := h
    exact ⟨a, vs, B, x, ⟨kvs, g _ _ y, y2, y3⟩, z, nb, sub, ORs.gro ed g xs vs B r⟩
  | .ins q ns xs, v, A, h => by
    rw [OR] at *; obtain ⟨a, dx, vs, B, x, y, l, z, nb, sub, r⟩ := h
    exact ⟨a, dx, vs, B, x, g _ _ y, l, z, nb, sub, ORs.gro ed g xs vs B r⟩
theorem ORs.gro (ed : Rx Hd Hd') (g : Gro H H') : ∀ (xs : List S) (vs : List V) (A : AS), ORs c Hd H xs vs A → ORs c Hd' H' xs vs A
  | [], vs, A, h => by rw [ORs] at *; exact h
  | x :: xs, vs, A, h => by
    rw [ORs] at *; obtain ⟨v, r, A1, A2, e, y, z, dj, s1, s2⟩ := h
    exact ⟨v, r, A1, A2, e, OR.gro ed g x v A1 y, ORs.gro ed g xs r A2 z, dj, s1, s2⟩
end
mutual
theorem OR.wide : ∀ (s : S) (v : V) (A A' : AS), (∀ a, A a → A' a) → OR c Hd H s v A → OR c Hd H s v A'
  | .dat d, v, A, A', k, h => by rw [OR] at *; exact h
  | .lst xs, v, A, A', k, h => by
    rw [OR] at *; obtain ⟨a, vs, B, x, y, z, nb, sub, r⟩ := h
    exact ⟨a, vs, B, x, y, k a z, nb, fun b hb => k b (sub b hb), r⟩
  | .dic ks xs, v, A, A', k, h => by
    rw [OR] at *; obtain ⟨a, vs, B, x, y, z, nb, sub, r⟩ := h
    exact ⟨a, vs, B, x, y, k a z, nb, fun b hb => k b (sub b hb), r⟩
  | .ins q ns xs, v, A, A', k, h => by
    rw [OR] at *; obtain ⟨a, dx, vs, B, x, y, l, z, nb, sub, r⟩ := h
    exact ⟨a, dx, vs, B, x, y, l, k a z, nb, fun b hb => k b (sub b hb), r⟩
theorem ORs.wide : ∀ (xs : List S) (vs : List V) (A A' : AS), (∀ a, A a → A' a) → ORs c Hd H xs vs A → ORs c Hd H xs vs A'
  | [], vs, A, A', k, h => by rw [ORs] at *; exact h
  | x :: xs, vs, A, A', k, h => by
    rw [ORs] at *; obtain ⟨v, r, A1, A2, e, y, z, dj, s1, s2⟩ := h
    exact ⟨v, r, A1, A2, e, y, z, dj, fun a ha => k a (s1 a ha), fun a ha => k a (s2 a ha)⟩
end
mutual
/-- an owned tree laid open is data -/
theorem OR.data {M M' : AS} (hM : ∀ a, M' a → M a) : ∀ (s : S) (v : V) (A : AS) (d : D), (∀ a, A a → ¬ M' a) → OR c (mask H M) H s v A → s.er = some d → TR c.K (mask H M') d v
  | .dat d', v, A, d, na, h, e => by
    rw [OR] at h; rw [S.er] at e; cases e
    exact TR.mono (Rx.unmask hM) _ _ h
  | .lst xs, v, A, d, na, h, e => by
    rw [OR] at h; obtain ⟨a, vs, B, x, y, z, nb, sub, r⟩ := h
    rw [S.er] at e
    cases q : S.ers xs with
    | none => rw [q] at e; cases e
    | some ds =>
      rw [q] at e; cases e
      rw [TR]
      exact ⟨a, vs, x, .inl (.inl (by rw [mask_out (na a z)]; exact y)), ORs.data hM xs vs B ds (fun b hb => na b (sub b hb)) r q⟩
  | .dic ks xs, v, A, d, na, h, e => by
    rw [OR] at h; obtain ⟨a, vs, B, x, ⟨kvs, y, y2, y3⟩, z, nb, sub, r⟩ := h
    rw [S.er] at e
    cases q : S.ers xs with
    | none => rw [q] at e; cases e
    | some ds =>
      rw [q] at e; cases e
      rw [TR]
      exact ⟨a, vs, x, ⟨kvs, .inl (by rw [mask_out (na a z)]; exact y), y2, y3⟩, ORs.data hM xs vs B ds (fun b hb => na b (sub b hb)) r q⟩
  | .ins _ _ _, v, A, d, na, h, e => by rw [S.er] at e; cases e
theorem ORs.data {M M' : AS} (hM : ∀ a, M' a → M a) : ∀ (xs : List S) (vs : List V) (A : AS) (ds : List D), (∀ a, A a → ¬ M' a) → ORs c (mask H M) H xs vs A → S.ers xs = some ds → TRs c.K (mask H M') ds vs
  | [], vs, A, ds, na, h, e => by
    rw [ORs] at h; rw [S.ers] at e; cases e; subst h; exact trs_nil
  | x :: xs, vs, A, ds, na, h, e => by
    rw [ORs] at h; obtain ⟨v, r, A1, A2, e1, y, z, dj, s1, s2⟩ := h
    rw [S.ers] at e
    cases q1 : S.er x with
    | none => rw [q1] at e; simp at e
    | some d =>
      cases q2 : S.ers xs with
      | none => rw [q1, q2] at e; simp at e
      | some ds' =>
        rw [q1, q2] at e; simp at e; subst e; subst e1
        exact trs_cons (OR.data hM x v A1 d (fun a ha => na a (s1 a ha)) y q1) (ORs.data hM xs r A2 ds' (fun a ha => na a (s2 a ha)) z q2)
end
theorem ORs.len : ∀ {xs : List S} {vs : List V} {A : AS}, ORs c Hd H xs vs A → xs.length = vs.length
  | [], vs, A, h => by rw [ORs] at h; subst h; rfl
  | x :: xs, vs, A, h => by rw [ORs] at h; obtain ⟨v, r, A1, A2, rfl, y, z, _⟩ := h; simp [ORs.len z]
end

/-! ### the state assertion -/
abbrev Env := List (Option S)
abbrev un (R A : AS) : AS := fun a => R a ∨ A a
structure Good (c : Ctx) (R : AS) (pn : List (Nat × V)) (σ : L2.St) (ρ : Env) (H : Hp) (M : AS) : Prop where
  len : ρ.length = σ.length
  own : ∃ fp : Nat → AS, (∀ (i : Nat) (s : S), ρ[i]? = some (some s) → ∃ v, σ[i]? = some (some v) ∧ OR c (mask H M) H s v (fp i)) ∧ (∀ i j a, fp i a → fp j a → i = j) ∧ (∀ i a, fp i a → M a ∧ ¬ R a)
  sub : ∀ a, R a → M a
  trk : ∀ a, M a → H a ≠ none
  pin : ∀ p ∈ pn, σ[p.1]? = some (some p.2)
structure Fr (R : AS) (H : Hp) (M : AS) (H' : Hp) (M' : AS) : Prop where
  keep : ∀ a, R a → H' a = H a
  gr : Gro (mask H M) (mask H' M')
theorem Fr.rx {R : AS} {H H' : Hp} {M M' : AS} (f : Fr R H M H' M') : Rx (mask H M) (mask H' M') := f.gr.rx
theorem Fr.refl {R : AS} {H : Hp} {M : AS} : Fr R H M H M := ⟨fun _ _ => rfl, Gro.refl _⟩
theorem Fr.trans {R : AS} {H H1 H2 : Hp} {M M1 M2 : AS} (a : Fr R H M H1 M1) (b : Fr R H1 M1 H2 M2) : Fr R H M H2 M2 :=
  ⟨fun x h => (b.keep x h).trans (a.keep x h), a.gr.trans b.gr⟩
theorem Fr.anti {R R' : AS} {H H' : Hp} {M M' : AS} (a : Fr R H M H' M') (h : ∀ x, R' x → R x) : Fr R' H M H' M' := ⟨fun x q => a.keep x (h x q), a.gr⟩
theorem Fr.un {R A : AS} {H H' : Hp} {M M' : AS} (a : Fr (un R A) H M H' M') : Fr R H M H' M' := a.anti fun _ => .inl

section
variable {c : Ctx} {R R' A : AS} {pn : List (Nat × V)} {σ : L2.St} {ρ : Env} {H H' : Hp} {M M' : AS} {v : V} {s : S} {i : Nat}
theorem Good.anti (g : Good c R pn σ ρ H M) (h : ∀ a, R' a → R a) : Good c R' pn σ ρ H M := by
  obtain ⟨fp, o, dj, m⟩ := g.own
  exact ⟨g.len, ⟨fp, o, dj, fun x a q => ⟨(m x a q).1, fun z => (m x a q).2 (h a z)⟩⟩, fun a q => g.sub a (h a q), g.trk, g.pin⟩
theorem Good.un (g : Good c (un R A) pn σ ρ H M) : Good c R pn σ ρ H M := g.anti fun _ => .inl
theorem set_none {ρ : Env} {i j : Nat} {t : S} (e : (ρ.set i none)[j]? = some (some t)) : j ≠ i ∧ ρ[j]? = some (some t) := by
  by_cases z : i = j
  · subst z
    rw [List.getElem?_set] at e
    split at e
    · split at e <;> simp at e
    · exact absurd rfl (by assumption)
  · rw [List.getElem?_set_ne z] at e
    exact ⟨fun q => z q.symm, e⟩
/-- a slot's tree is taken out -/
theorem Good.slot (g : Good c R pn σ ρ H M) (h : ρ[i]? = some (some s)) :
    ∃ v A, σ[i]? = some (some v) ∧ OR c (mask H M) H s v A ∧ (∀ a, A a → ¬ R a) ∧ (∀ a, A a → M a) ∧ Good c (DL.un R A) pn σ (ρ.set i none) H M := by
  obtain ⟨fp, o, dj, m⟩ := g.own
  obtain ⟨v, hv, ho⟩ := o i s h
  refine ⟨v, fp i, hv, ho, fun a q => (m _ a q).2, fun a q => (m _ a q).1, ?_⟩
  refine ⟨by simpa using g.len, ⟨fun x a => x ≠ i ∧ fp x a, fun x t e => ?_, fun x y a p q => dj x y a p.2 q.2, fun x a p => ⟨(m x a p.2).1, fun z => ?_⟩⟩, fun a q => ?_, g.trk, g.pin⟩
  · obtain ⟨ne, e'⟩ := set_none e
    obtain ⟨w, e1, e2⟩ := o x t e'
    exact ⟨w, e1, OR.wide _ _ _ _ (fun a ha => ⟨ne, ha⟩) e2⟩
  · rcases z with z | z
    · exact (m x a p.2).2 z
    · exact p.1 (dj _ _ a p.2 z)
  · rcases q with q | q
    · exact g.sub a q
    · exact (m _ a q).1
/-- a tree is laid into a slot -/
theorem Good.fill (g : Good c (DL.un R A) pn σ (ρ.set i none) H M) (hi : i < σ.length) (h : OR c (mask H M) H s v A) (dj : ∀ a, A a → ¬ R a)
    (hp : ∀ p ∈ pn, p.1 = i → p.2 = v) : Good c R pn (σ.set i (some v)) (ρ.set i (some s)) H M := by
  obtain ⟨fp, o, dj', m⟩ := g.own
  have hl : ρ.length = σ.length := by simpa using g.len
  refine ⟨by simpa using hl, ⟨fun x a => (x = i ∧ A a) ∨ (x ≠ i ∧ fp x a), fun x t e => ?_, fun x y a p q => ?_, fun x a p => ?_⟩, fun a q => g.sub a (.inl q), g.trk, fun p hp' => ?_⟩
  · by_cases hx : x = i
    · subst hx
      rw [List.getElem?_set_self (by omega)] at e
      cases e
      exact ⟨v, by rw [List.getElem?_set_self hi], OR.wide _ _ _ _ (fun a ha => .inl ⟨rfl, ha⟩) h⟩
    · rw [List.getElem?_set_ne (fun z => hx z.symm)] at e
      obtain ⟨w, e1, e2⟩ := o x t (by rw [List.getElem?_set_ne (fun z => hx z.symm)]; exact e)
      exact ⟨w, by rw [List.getElem?_set_ne (fun z => hx z.symm)]; exact e1, OR.wide _ _ _ _ (fun a ha => .inr ⟨hx, ha⟩) e2⟩
  · rcases p with ⟨p1, p⟩ | ⟨p1, p⟩
    · rcases q with ⟨q1, q⟩ | ⟨q1, q⟩
      · rw [p1, q1]
      · exact ((m y a q).2 (.inr p)).elim
    · rcases q with ⟨q1, q⟩ | ⟨q1, q⟩
      · exact ((m x a p).2 (.inr q)).elim
      · exact dj' x y a p q
  · rcases p with ⟨p1, p⟩ | ⟨p1, p⟩
    · exact ⟨g.sub a (.inr p), dj a p⟩
    · exact ⟨(m x a p).1, fun z => (m x a p).2 (.inl z)⟩
  · have := g.pin p hp'
    by_cases q : p.1 = i
    · rw [q, List.getElem?_set_self hi, hp p hp' q]
    · rw [List.getElem?_set_ne (fun z => q z.symm)]; exact this
/-- a slot is forgotten -/
theorem Good.forget (g : Good c R pn σ ρ H M) (i : Nat) : Good c R pn σ (ρ.set i none) H M := by
  obtain ⟨fp, o, dj, m⟩ := g.own
  exact ⟨by simpa using g.len, ⟨fp, fun x t e => o x t (set_none e).2, dj, m⟩, g.sub, g.trk, g.pin⟩
/-- .. and refilled in its place: the value stays -/
theorem Good.back (g : Good c (DL.un R A) pn σ (ρ.set i none) H M) (hv : σ[i]? = some (some v)) (h : OR c (mask H M) H s v A) (dj : ∀ a, A a → ¬ R a) : Good c R pn σ (ρ.set i (some s)) H M := by
  have hi : i < σ.length := (List.getElem?_eq_some_iff.mp hv).1
  have e : σ.set i (some v) = σ := by
    apply List.ext_getElem?
    intro j
    by_cases z : i = j
    · subst z; rw [List.getElem?_set_self hi, hv]
    · rw [List.getElem?_set_ne z]
  have := g.fill (s := s) (v := v) hi h dj (fun p hp q => by
    have := g.pin p hp
    rw [q, hv] at this
    exact (Option.some.inj (Option.some.inj this)).symm)
  rwa [e] at this
/-- what was owned is laid open -/
theorem Good.open (g : Good c (DL.un R A) pn σ ρ H M) (dj : ∀ a, A a → ¬ R a) : Good c R pn σ ρ H (fun a => M a ∧ ¬ A a) := by
  obtain ⟨fp, o, dj', m⟩ := g.own
  have rx : Rx (mask H M) (mask H (fun a => M a ∧ ¬ A a)) := Rx.unmask fun a h => h.1
  exact ⟨g.len, ⟨fp, fun x s e => let ⟨v, e1, e2⟩ := o x s e; ⟨v, e1, OR.frame rx _ _ _ (fun _ _ => rfl) e2⟩, dj', fun x a q => ⟨⟨(m x a q).1, fun z => (m x a q).2 (.inr z)⟩, fun z => (m x a q).2 (.inl z)⟩⟩,
    fun a q => ⟨g.sub a (.inl q), fun z => dj a z q⟩, fun a q => g.trk a q.1, g.pin⟩
theorem Fr.open {A : AS} : Fr R H M H (fun a => M a ∧ ¬ A a) := ⟨fun _ _ => rfl, Gro.unmask fun a h => h.1⟩
/-- the heap has changed outside of what is owned -/
theorem Good.heap (g : Good c R pn σ ρ H M) (k : ∀ a, M a → H' a = H a) (rx : Rx (mask H M) (mask H' M)) : Good c R pn σ ρ H' M := by
  obtain ⟨fp, o, dj, m⟩ := g.own
  exact ⟨g.len, ⟨fp, fun x s e => let ⟨v, e1, e2⟩ := o x s e; ⟨v, e1, OR.frame rx _ _ _ (fun a q => k a (m x a q).1) e2⟩, dj, m⟩, g.sub, fun a q => by rw [k a q]; exact g.trk a q, g.pin⟩
/-- behind what others did: all that is masked but A is as it was -/
theorem Good.other {A' : AS} (g : Good c (DL.un R A) pn σ ρ H M) (k : ∀ a, M a → ¬ A a → H' a = H a ∧ M' a) (rx : Rx (mask H M) (mask H' M')) (tk : ∀ a, M' a → H' a ≠ none) (dj : ∀ a, A a → ¬ R a)
    (a1 : ∀ a, A' a → M' a) (a2 : ∀ a, A' a → M a → A a) : Good c (DL.un R A') pn σ ρ H' M' := by
  obtain ⟨fp, o, dj', m⟩ := g.own
  have na : ∀ x a, fp x a → ¬ A a := fun x a q z => (m x a q).2 (.inr z)
  refine ⟨g.len, ⟨fp, fun x s e => let ⟨v, e1, e2⟩ := o x s e; ⟨v, e1, OR.frame rx _ _ _ (fun a q => (k a (m x a q).1 (na x a q)).1) e2⟩, dj', fun x a q => ⟨(k a (m x a q).1 (na x a q)).2, fun z => ?_⟩⟩, fun a q => ?_, tk, g.pin⟩
  · rcases z with z | z
    · exact (m x a q).2 (.inl z)
    · exact na x a q (a2 a z (m x a q).1)
  · rcases q with q | q
    · exact (k a (g.sub a (.inl q)) (fun z => dj a z q)).2
    · exact a1 a q
/-- an owned object is written -/
theorem mask_upd {a : Addr} {o : HO} (h : M a) : mask (upd H a o) M = mask H M := by
  funext b
  by_cases q : M b
  · rw [mask_in q, mask_in q]
  · rw [mask_out q, mask_out q, upd_ne (fun z => q (by rw [z]; exact h))]
theorem Good.write {a : Addr} {o : HO} (g : Good c R pn σ ρ H M) (h : R a) : Good c R pn σ ρ (upd H a o) M := by
  obtain ⟨fp, ow, dj, m⟩ := g.own
  refine ⟨g.len, ⟨fp, fun x s e => ?_, dj, m⟩, g.sub, fun b q => ?_, g.pin⟩
  · obtain ⟨v, e1, e2⟩ := ow x s e
    refine ⟨v, e1, ?_⟩
    rw [mask_upd (g.sub a h)]
    exact OR.frame (Rx.refl _) _ _ _ (fun b q => upd_ne fun z => (m x b q).2 (by rw [z]; exact h)) e2
  · by_cases z : b = a
    · rw [z, upd_same]; simp
    · rw [upd_ne z]; exact g.trk b q
/-- a new object: data, or owned -/
theorem gro_new {p : Addr} {o : HO} (hp : H p = none) : Gro (mask H M) (mask (upd H p o) M) := fun a u e => by
  obtain ⟨n, e'⟩ := mask_some e
  rw [mask_out n, upd_ne (ne_of_none e' hp)]; exact e'
theorem mask_new {p : Addr} {o : HO} (hp : H p = none) : Rx (mask H M) (mask (upd H p o) M) := (gro_new hp).rx
theorem gro_newM {p : Addr} {o : HO} (hp : H p = none) : Gro (mask H M) (mask (upd H p o) (DL.un M (fun a => a = p))) := fun a u e => by
  obtain ⟨n, e'⟩ := mask_some e
  have ne := ne_of_none e' hp
  rw [mask_out (fun z => z.elim n ne), upd_ne ne]; exact e'
theorem mask_newM {p : Addr} {o : HO} (hp : H p = none) : Rx (mask H M) (mask (upd H p o) (DL.un M (fun a => a = p))) := (gro_newM hp).rx
theorem Good.fresh {p : Addr} (g : Good c R pn σ ρ H M) (hp : H p = none) : ¬ M p := fun z => g.trk p z hp
theorem Good.new {p : Addr} {o : HO} (g : Good c R pn σ ρ H M) (hp : H p = none) : Good c R pn σ ρ (upd H p o) M :=
  g.heap (fun a q => upd_ne fun z => g.trk a q (by rw [z]; exact hp)) (mask_new hp)
theorem Good.newM {p : Addr} {o : HO} (g : Good c R pn σ ρ H M) (hp : H p = none) : Good c (DL.un R (fun a => a = p)) pn σ ρ (upd H p o) (DL.un M (fun a => a = p)) := by
  obtain ⟨fp, ow, dj, m⟩ := g.own
  have nm : ∀ a, M a → a ≠ p := fun a q z => g.trk a q (by rw [z]; exact hp)
  refine ⟨g.len, ⟨fp, fun x s e => let ⟨v, e1, e2⟩ := ow x s e; ⟨v, e1, OR.frame (mask_newM hp) _ _ _ (fun a q => upd_ne (nm a (m x a q).1)) e2⟩, dj, fun x a q => ⟨.inl (m x a q).1, fun z => ?_⟩⟩, fun a q => ?_, fun a q => ?_, g.pin⟩
  · rcases z with z | z
    · exact (m x a q).2 z
    · exact nm a (m x a q).1 z
  · rcases q with q | q
    · exact .inl (g.sub a q)
    · exact .inr q
  · by_cases z : a = p
    · rw [z, upd_same]; simp
    · rw [upd_ne z]; rcases q with q | q
      · exact g.trk a q
      · exact (z q).elim
theorem Fr.new {p : Addr} {o : HO} (g : Good c R pn σ ρ H M) (hp : H p = none) : Fr R H M (upd H p o) M :=
  ⟨fun a q => upd_ne fun z => g.trk a (g.sub a q) (by rw [z]; exact hp), gro_new hp⟩
theorem Fr.newM {p : Addr} {o : HO} (g : Good c R pn σ ρ H M) (hp : H p = none) : Fr R H M (upd H p o) (DL.un M (fun a => a = p)) :=
  ⟨fun a q => upd_ne fun z => g.trk a (g.sub a q) (by rw [z]; exact hp), gro_newM hp⟩
theorem Fr.write {a : Addr} {o : HO} (h : ¬ R a) (m : M a) : Fr R H M (upd H a o) M :=
  ⟨fun b q => upd_ne fun z => h (by rw [← z]; exact q), by rw [mask_upd m]; exact Gro.refl _⟩
theorem Good.slotD {d : D} (g : Good c R pn σ ρ H M) (h : ρ[i]? = some (some (.dat d))) : ∃ v, σ[i]? = some (some v) ∧ TR c.K (mask H M) d v := by
  obtain ⟨v, A, e, o, _⟩ := g.slot h
  rw [OR] at o
  exact ⟨v, e, o⟩
theorem Good.gro (g : Good c R pn σ ρ H M) (k : Gro H H') : Good c R pn σ ρ H' M :=
  g.heap (fun a q => by
    cases e : H a with
    | none => exact absurd e (g.trk a q)
    | some o => exact k a o e) k.mask.rx
theorem Fr.gro (g : Good c R pn σ ρ H M) (k : Gro H H') : Fr R H M H' M :=
  ⟨fun a q => by
    cases e : H a with
    | none => exact absurd e (g.trk a (g.sub a q))
    | some o => exact k a o e, k.mask⟩
theorem or_dat {Hd : Hp} {d : D} (h : TR c.K Hd d v) : OR c Hd H (.dat d) v A := by rw [OR]; exact h
end
end DL

/-! DL1: what an expression, a test, an argument list evaluates to, over data. -/
namespace DL
open PySem L2 PyProof.Rows
open Classical

/-- an outcome: none told, a value and the names' trees behind it, an exception's class -/
inductive O (α : Type) where
  | no | ok (a : α) (ρ : Env) | ex (k : Str) (ρ : Env)
def O.bind {α β : Type} : O α → (α → Env → O β) → O β
  | .no, _ => .no
  | .ok a ρ, k => k a ρ
  | .ex c ρ, _ => .ex c ρ
@[simp] theorem O.bind_ok {α β : Type} {a : α} {ρ : Env} {k : α → Env → O β} : (O.ok a ρ).bind k = k a ρ := rfl
@[simp] theorem O.bind_no {α β : Type} {k : α → Env → O β} : (O.no : O α).bind k = .no := rfl
@[simp] theorem O.bind_ex {α β : Type} {c : Str} {ρ : Env} {k : α → Env → O β} : (O.ex c ρ : O α).bind k = .ex c ρ := rfl
def O.opt {α : Type} (ρ : Env) : Option α → O α
  | some a => .ok a ρ
  | none => .no
@[simp] theorem O.opt_some {α : Type} {a : α} {ρ : Env} : O.opt ρ (some a) = .ok a ρ := rfl
@[simp] theorem O.opt_none {α : Type} {ρ : Env} : (O.opt ρ none : O α) = .no := rfl

section
variable (X : Cx) (c : Ctx) (W : WX)
def PostE (R : AS) (pn : List (Nat × V)) (σ : L2.St) (H : Hp) (M : AS) (Q : VK) : O S → Prop
  | .no => False
  | .ok s ρ' => ∀ v H' M' A, Good c (un R A) pn σ ρ' H' M' → (∀ a, A a → ¬ R a) → OR c (mask H' M') H' s v A → Fr R H M H' M' → Q v H'
  | .ex k ρ' => ∀ H' M', Good c R pn σ ρ' H' M' → Fr R H M H' M' → W (.ref (c.ca k)) none σ H'
def PostD (R : AS) (pn : List (Nat × V)) (σ : L2.St) (H : Hp) (M : AS) (Q : VK) : O D → Prop
  | .no => False
  | .ok d ρ' => ∀ v H' M', Good c R pn σ ρ' H' M' → TR c.K (mask H' M') d v → Fr R H M H' M' → Q v H'
  | .ex k ρ' => ∀ H' M', Good c R pn σ ρ' H' M' → Fr R H M H' M' → W (.ref (c.ca k)) none σ H'
def PostT (R : AS) (pn : List (Nat × V)) (σ : L2.St) (H : Hp) (M : AS) (Q : Bool → Hp → Prop) : O Bool → Prop
  | .no => False
  | .ok b ρ' => ∀ H' M', Good c R pn σ ρ' H' M' → Fr R H M H' M' → Q b H'
  | .ex k ρ' => ∀ H' M', Good c R pn σ ρ' H' M' → Fr R H M H' M' → W (.ref (c.ca k)) none σ H'
def PostA (R : AS) (pn : List (Nat × V)) (σ : L2.St) (H : Hp) (M : AS) (Q : List V → Hp → Prop) : O (List D) → Prop
  | .no => False
  | .ok ds ρ' => ∀ vs H' M', Good c R pn σ ρ' H' M' → TRs c.K (mask H' M') ds vs → Fr R H M H' M' → Q vs H'
  | .ex k ρ' => ∀ H' M', Good c R pn σ ρ' H' M' → Fr R H M H' M' → W (.ref (c.ca k)) none σ H'
/-- a fresh value, its tree the asker's own -/
def DE (e : Expr) (f : Env → O S) : Prop := ∃ te : TE, PE X e te ∧ ∀ R pn σ ρ H M, Good c R pn σ ρ H M → ∀ Q, PostE c W R pn σ H M Q (f ρ) → te σ H Q
/-- data -/
def DD (e : Expr) (f : Env → O D) : Prop := ∃ te : TE, PE X e te ∧ ∀ R pn σ ρ H M, Good c R pn σ ρ H M → ∀ Q, PostD c W R pn σ H M Q (f ρ) → te σ H Q
/-- a place that is read: nothing changes -/
def DB (e : Expr) (f : Env → Option S) : Prop := ∃ te : TE, PE X e te ∧ ∀ R pn σ ρ H M, Good c R pn σ ρ H M → ∀ s, f ρ = some s → ∀ Q : VK, (∀ v H' A, Gro H H' → OR c (mask H' M) H' s v A → Q v H') → te σ H Q
/-- data, nothing changes -/
def DP (e : Expr) (f : Env → Option D) : Prop := ∃ te : TE, PE X e te ∧ ∀ R pn σ ρ H M, Good c R pn σ ρ H M → ∀ d, f ρ = some d → ∀ Q : VK, (∀ v H', Gro H H' → TR c.K (mask H' M) d v → Q v H') → te σ H Q
/-- what is read at once, nothing changes -/
def DU (e : Expr) (f : Env → Option D) : Prop := ∃ te : TE, PE X e te ∧ ∀ R pn σ ρ H M, Good c R pn σ ρ H M → ∀ d, f ρ = some d → ∀ Q : VK, (∀ v H', Gro H H' → TR c.K H' d v → Q v H') → te σ H Q
def DPT (e : Expr) (f : Env → Option Bool) : Prop := ∃ tt : TT, PT X e tt ∧ ∀ R pn σ ρ H M, Good c R pn σ ρ H M → ∀ b, f ρ = some b → ∀ Q : Bool → Hp → Prop, (∀ H', Gro H H' → Q b H') → tt σ H Q
def DPA (es : List Expr) (f : Env → Option (List D)) : Prop := ∃ ta : TA, PA X es ta ∧ ∀ R pn σ ρ H M, Good c R pn σ ρ H M → ∀ ds, f ρ = some ds → ∀ Q : List V → Hp → Prop, (∀ vs H', Gro H H' → TRs c.K (mask H' M) ds vs → Q vs H') → ta σ H Q
def DT (e : Expr) (f : Env → O Bool) : Prop := ∃ tt : TT, PT X e tt ∧ ∀ R pn σ ρ H M, Good c R pn σ ρ H M → ∀ Q, PostT c W R pn σ H M Q (f ρ) → tt σ H Q
def DA (es : List Expr) (f : Env → O (List D)) : Prop := ∃ ta : TA, PA X es ta ∧ ∀ R pn σ ρ H M, Good c R pn σ ρ H M → ∀ Q, PostA c W R pn σ H M Q (f ρ) → ta σ H Q
end

section
variable {X : Cx} {c : Ctx} {W : WX} {R : AS} {pn : List (Nat × V)} {σ : L2.St} {ρ : Env} {H H1 : Hp} {M M1 : AS}
/-- behind a first step the same is wanted -/
theorem PostE.after {Q : VK} {o : O S} (h : PostE c W R pn σ H M Q o) (f : Fr R H M H1 M1) : PostE c W R pn σ H1 M1 Q o := by
  cases o with
  | no => exact h
  | ok s ρ' => exact fun v H' M' A g dj r f' => h v H' M' A g dj r (f.trans f')
  | ex k ρ' => exact fun H' M' g f' => h H' M' g (f.trans f')
theorem PostD.after {Q : VK} {o : O D} (h : PostD c W R pn σ H M Q o) (f : Fr R H M H1 M1) : PostD c W R pn σ H1 M1 Q o := by
  cases o with
  | no => exact h
  | ok s ρ' => exact fun v H' M' g r f' => h v H' M' g r (f.trans f')
  | ex k ρ' => exact fun H' M' g f' => h H' M' g (f.trans f')
theorem PostT.after {Q : Bool → Hp → Prop} {o : O Bool} (h : PostT c W R pn σ H M Q o) (f : Fr R H M H1 M1) : PostT c W R pn σ H1 M1 Q o := by
  cases o with
  | no => exact h
  | ok s ρ' => exact fun H' M' g f' => h H' M' g (f.trans f')
  | ex k ρ' => exact fun H' M' g f' => h H' M' g (f.trans f')
theorem PostA.after {Q : List V → Hp → Prop} {o : O (List D)} (h : PostA c W R pn σ H M Q o) (f : Fr R H M H1 M1) : PostA c W R pn σ H1 M1 Q o := by
  cases o with
  | no => exact h
  | ok s ρ' => exact fun v H' M' g r f' => h v H' M' g r (f.trans f')
  | ex k ρ' => exact fun H' M' g f' => h H' M' g (f.trans f')

/-! ### pure things as things -/
def lD (f : Env → Option D) : Env → O D := fun ρ => .opt ρ (f ρ)
def lT (f : Env → Option Bool) : Env → O Bool := fun ρ => .opt ρ (f ρ)
def lA (f : Env → Option (List D)) : Env → O (List D) := fun ρ => .opt ρ (f ρ)
theorem DP.dd {e : Expr} {f : Env → Option D} (h : DP X c e f) : DD X c W e (lD f) := by
  obtain ⟨te, pe, h⟩ := h
  refine ⟨te, pe, fun R pn σ ρ H M g Q q => ?_⟩
  unfold lD at q
  cases o : f ρ with
  | none => rw [o] at q; exact q.elim
  | some d => rw [o] at q; exact h R pn σ ρ H M g d o Q fun v H' k t => q v H' M (g.gro k) t (Fr.gro g k)
theorem DPT.dt {e : Expr} {f : Env → Option Bool} (h : DPT X c e f) : DT X c W e (lT f) := by
  obtain ⟨te, pe, h⟩ := h
  refine ⟨te, pe, fun R pn σ ρ H M g Q q => ?_⟩
  unfold lT at q
  cases o : f ρ with
  | none => rw [o] at q; exact q.elim
  | some d => rw [o] at q; exact h R pn σ ρ H M g d o Q fun H' k => q H' M (g.gro k) (Fr.gro g k)
theorem DPA.da {e : List Expr} {f : Env → Option (List D)} (h : DPA X c e f) : DA X c W e (lA f) := by
  obtain ⟨te, pe, h⟩ := h
  refine ⟨te, pe, fun R pn σ ρ H M g Q q => ?_⟩
  unfold lA at q
  cases o : f ρ with
  | none => rw [o] at q; exact q.elim
  | some d => rw [o] at q; exact h R pn σ ρ H M g d o Q fun v H' k t => q v H' M (g.gro k) t (Fr.gro g k)
/-- a place that holds data; a place as it is read at once -/
def asD (f : Env → Option S) : Env → Option D := fun ρ => match f ρ with
  | some (.dat d) => some d
  | _ => none
def asU (f : Env → Option S) : Env → Option D := fun ρ => (f ρ).bind S.er
def asB (f : Env → Option D) : Env → Option S := fun ρ => (f ρ).map .dat
theorem DB.dp {e : Expr} {f : Env → Option S} (h : DB X c e f) : DP X c e (asD f) := by
  obtain ⟨te, pe, h⟩ := h
  refine ⟨te, pe, fun R pn σ ρ H M g d e Q q => ?_⟩
  unfold asD at e
  split at e
  · rename_i d' o
    cases e
    exact h R pn σ ρ H M g _ o Q fun v H' A k r => q v H' k (by rw [OR] at r; exact r)
  · cases e
theorem DB.du {e : Expr} {f : Env → Option S} (h : DB X c e f) : DU X c e (asU f) := by
  obtain ⟨te, pe, h⟩ := h
  refine ⟨te, pe, fun R pn σ ρ H M g d e Q q => ?_⟩
  obtain ⟨s, o, ed⟩ := Option.bind_eq_some_iff.mp e
  refine h R pn σ ρ H M g _ o Q fun v H' A k r => q v H' k ?_
  exact (OR.data (M' := fun _ => False) (fun a h => h.elim) s v A d (fun a ha n => n) r ed).mono Rx.full _ _
theorem DP.du {e : Expr} {f : Env → Option D} (h : DP X c e f) : DU X c e f := by
  obtain ⟨te, pe, h⟩ := h
  exact ⟨te, pe, fun R pn σ ρ H M g d e Q q => h R pn σ ρ H M g d e Q fun v H' k r => q v H' k (r.mono Rx.full _ _)⟩
theorem DP.db {e : Expr} {f : Env → Option D} (h : DP X c e f) : DB X c e (asB f) := by
  obtain ⟨te, pe, h⟩ := h
  refine ⟨te, pe, fun R pn σ ρ H M g s e Q q => ?_⟩
  obtain ⟨d, o, ed⟩ := Option.map_eq_some_iff.mp e
  subst ed
  exact h R pn σ ρ H M g d o Q fun v H' k r => q v H' (fun _ => False) k (or_dat r)

/-! ### names, constants -/
def gOwn (i : Nat) : Env → Option S := fun ρ => match ρ[i]? with
  | some (some s) => some s
  | _ => none
def gVar (i : Nat) : Env → Option D := asD (gOwn i)
def gC (d : D) : Env → Option D := fun _ => some d
theorem db_var {i : Nat} {x : Str} {pos : Pos} (h : PE X (.Name x pos) (tVar i)) : DB X c (.Name x pos) (gOwn i) := by
  refine ⟨_, h, fun R pn σ ρ H M g s e Q q => ?_⟩
  unfold gOwn at e
  split at e
  · rename_i d o
    cases e
    obtain ⟨v, A, hv, r, _⟩ := g.slot o
    exact ⟨v, hv, q v H A (Gro.refl H) r⟩
  · cases e
theorem dp_var {i : Nat} {x : Str} {pos : Pos} (h : PE X (.Name x pos) (tVar i)) : DP X c (.Name x pos) (gVar i) := (db_var h).dp
theorem dp_pure {e : Expr} {v : V} {d : D} (h : PE X e (tC v)) (r : ∀ H, TR c.K H d v) : DP X c e (gC d) :=
  ⟨_, h, fun R pn σ ρ H M g d' e Q q => by cases e; exact q v H (Gro.refl H) (r _)⟩
theorem dp_int {i : Int} {j : Nat} {pos : Pos} : DP X c (.Constant (.int i) j pos) (gC (.int i)) := dp_pure pe_int fun _ => by rw [TR]
theorem dp_str {i : Str} {j : Nat} {pos : Pos} : DP X c (.Constant (.str i) j pos) (gC (.str i)) := dp_pure pe_str fun _ => by rw [TR]
theorem dp_bl {i : Bool} {j : Nat} {pos : Pos} : DP X c (.Constant (.bool i) j pos) (gC (.bl i)) := dp_pure pe_bl fun _ => by rw [TR]
theorem dp_non {j : Nat} {pos : Pos} : DP X c (.Constant .none j pos) (gC .non) := dp_pure pe_non fun _ => by rw [TR]
/-- a name whose tree is laid open where it stands -/
def fMv (i : Nat) : Env → O D := fun ρ => match ρ[i]? with
  | some (some s) => match s.er with
    | some d => .ok d (ρ.set i (some (.dat d)))
    | none => .no
  | _ => .no
theorem dd_mv {i : Nat} {x : Str} {pos : Pos} (h : PE X (.Name x pos) (tVar i)) : DD X c W (.Name x pos) (fMv i) := by
  refine ⟨_, h, fun R pn σ ρ H M g Q q => ?_⟩
  unfold fMv at q
  split at q
  · rename_i s e
    split at q
    · rename_i d ed
      obtain ⟨v, A, hv, r, dj, _, g'⟩ := g.slot e
      have t := OR.data (M' := fun a => M a ∧ ¬ A a) (fun a h => h.1) s v A d (fun a ha n => n.2 ha) r ed
      have g2 := g'.open dj
      exact ⟨v, hv, q v H _ ((Good.back (A := fun _ => False) (g2.anti fun a h => h.elim id False.elim) hv (or_dat t) fun _ z => z.elim)) t Fr.open⟩
    · exact q.elim
  · exact q.elim
/-! ### from one judgement to another -/
def fDat (f : Env → O D) : Env → O S := fun ρ => (f ρ).bind fun d ρ => .ok (.dat d) ρ
theorem DD.de {e : Expr} {f : Env → O D} (h : DD X c W e f) : DE X c W e (fDat f) := by
  obtain ⟨te, pe, h⟩ := h
  refine ⟨te, pe, fun R pn σ ρ H M g Q q => h R pn σ ρ H M g Q ?_⟩
  unfold fDat at q
  cases o : f ρ with
  | no => rw [o] at q; exact q
  | ok d ρ' => rw [o] at q; exact fun v H' M' g' r fr => q v H' M' (fun _ => False) (g'.anti fun a h => h.elim id False.elim) (fun _ z => z.elim) (or_dat r) fr
  | ex k ρ' => rw [o] at q; exact q
/-- laid open -/
def fFrz (f : Env → O S) : Env → O D := fun ρ => (f ρ).bind fun s ρ => .opt ρ s.er
theorem DE.dd {e : Expr} {f : Env → O S} (h : DE X c W e f) : DD X c W e (fFrz f) := by
  obtain ⟨te, pe, h⟩ := h
  refine ⟨te, pe, fun R pn σ ρ H M g Q q => h R pn σ ρ H M g Q ?_⟩
  unfold fFrz at q
  cases o : f ρ with
  | no => rw [o] at q; exact q
  | ex k ρ' => rw [o] at q; exact q
  | ok s ρ' =>
    rw [o] at q
    intro v H' M' A g' dj r fr
    have q' : PostD c W R pn σ H M Q (O.opt ρ' s.er) := q
    cases ed : s.er with
    | none => rw [ed] at q'; exact q'.elim
    | some d =>
      rw [ed] at q'
      have t := OR.data (M' := fun a => M' a ∧ ¬ A a) (fun a h => h.1) s v A d (fun a ha n => n.2 ha) r ed
      exact q' v H' _ (g'.open dj) t (fr.trans Fr.open)
/-! ### two-place operators -/
/-- an operation on values, told on data -/
def OpD (X : Cx) (c : Ctx) (op : Value → Value → Sem Value) (F : D → D → Option D) : Prop :=
  ∃ r : R2, OpR X op r ∧ ∀ (H : Hp) (M : AS) (x y d : D) (v u : V), (∀ a, M a → H a ≠ none) → TR c.K (mask H M) x v → TR c.K (mask H M) y u → F x y = some d → ∀ Q : VK, (∀ w H', Gro H H' → TR c.K (mask H' M) d w → Q w H') → r v u H Q
def fBin (F : D → D → Option D) (f g : Env → O D) : Env → O D := fun ρ => (f ρ).bind fun a ρ => (g ρ).bind fun b ρ => .opt ρ (F a b)
/-- first one, then the other -/
theorem two {e1 e2 : Expr} {f g : Env → O D} (h1 : DD X c W e1 f) (h2 : DD X c W e2 g) :
    ∃ ta tb : TE, PE X e1 ta ∧ PE X e2 tb ∧ ∀ (α : Type) (F : D → D → Option α) R pn σ ρ H M, Good c R pn σ ρ H M → ∀ (K : V → V → Hp → Prop),
      (match (f ρ).bind fun a ρ => (g ρ).bind fun b ρ => (O.opt ρ (F a b)) with
        | .no => False
        | .ok z ρ' => ∀ x y v u H' M', F x y = some z → Good c R pn σ ρ' H' M' → TR c.K (mask H' M') x v → TR c.K (mask H' M') y u → Fr R H M H' M' → K v u H'
        | .ex k ρ' => ∀ H' M', Good c R pn σ ρ' H' M' → Fr R H M H' M' → W (.ref (c.ca k)) none σ H') →
      ta σ H fun v H1 => tb σ H1 fun u H2 => K v u H2 := by
  obtain ⟨ta, pa, h1⟩ := h1
  obtain ⟨tb, pb, h2⟩ := h2
  refine ⟨ta, tb, pa, pb, fun α F R pn σ ρ H M g0 K q => h1 R pn σ ρ H M g0 _ ?_⟩
  cases o : f ρ with
  | no => rw [o] at q; exact q
  | ex k ρ' => rw [o] at q; exact q
  | ok a ρ1 =>
    rw [o] at q
    intro v H1 M1 g1 r1 fr1
    refine h2 R pn σ ρ1 H1 M1 g1 _ ?_
    dsimp only [O.bind] at q
    cases o2 : g ρ1 with
    | no => rw [o2] at q; exact q
    | ex k ρ' => rw [o2] at q; exact fun H' M' g' f' => q H' M' g' (fr1.trans f')
    | ok b ρ2 =>
      rw [o2] at q
      intro u H2 M2 g2 r2 fr2
      dsimp only [O.bind] at q
      cases e : F a b with
      | none => rw [e] at q; exact q.elim
      | some z =>
        rw [e] at q
        exact q a b v u H2 M2 e g2 (r1.mono fr2.rx _ _) r2 (fr1.trans fr2)
theorem dd_bin {op : Operator} {F : D → D → Option D} {e1 e2 : Expr} {f g : Env → O D} {pos : Pos} (ho : OpD X c (binaryOp op) F) (h1 : DD X c W e1 f) (h2 : DD X c W e2 g) : DD X c W (.BinOp e1 op e2 pos) (fBin F f g) := by
  obtain ⟨r, hr, hs⟩ := ho
  obtain ⟨ta, tb, pa, pb, h⟩ := two h1 h2
  refine ⟨_, pe_op hr pa pb, fun R pn σ ρ H M g0 Q q => h D F R pn σ ρ H M g0 _ ?_⟩
  unfold fBin at q
  cases o : ((f ρ).bind fun a ρ => (g ρ).bind fun b ρ => (O.opt ρ (F a b))) with
  | no => rw [o] at q; exact q
  | ex k ρ' => rw [o] at q; exact q
  | ok z ρ' =>
    rw [o] at q
    intro x y v u H' M' e g' r1 r2 fr
    exact hs H' M' x y z v u g'.trk r1 r2 e Q fun w H'' gr t => q w H'' M' (g'.gro gr) t (fr.trans (Fr.gro g' gr))
theorem dd_cmp {op : CmpOp} {F : D → D → Option D} {e1 e2 : Expr} {f g : Env → O D} {pos : Pos} (ho : OpD X c (compareOp op) F) (h1 : DD X c W e1 f) (h2 : DD X c W e2 g) (hm : behindInMarks op e2 = false) : DD X c W (.Compare e1 [op] [e2] pos) (fBin F f g) := by
  obtain ⟨r, hr, hs⟩ := ho
  obtain ⟨ta, tb, pa, pb, h⟩ := two h1 h2
  refine ⟨_, pe_cmpR hr pa pb hm, fun R pn σ ρ H M g0 Q q => h D F R pn σ ρ H M g0 _ ?_⟩
  unfold fBin at q
  cases o : ((f ρ).bind fun a ρ => (g ρ).bind fun b ρ => (O.opt ρ (F a b))) with
  | no => rw [o] at q; exact q
  | ex k ρ' => rw [o] at q; exact q
  | ok z ρ' =>
    rw [o] at q
    intro x y v u H' M' e g' r1 r2 fr
    exact hs H' M' x y z v u g'.trk r1 r2 e Q fun w H'' gr t => q w H'' M' (g'.gro gr) t (fr.trans (Fr.gro g' gr))
/-- .. as a test -/
def fTst (f : Env → O D) : Env → O Bool := fun ρ => (f ρ).bind fun d ρ => match d with
  | .bl b => .ok b ρ
  | _ => .no
theorem tst_of {te : TE} {f : Env → O D} (h : ∀ R pn σ ρ H M, Good c R pn σ ρ H M → ∀ Q, PostD c W R pn σ H M Q (f ρ) → te σ H Q) :
    ∀ R pn σ ρ H M, Good c R pn σ ρ H M → ∀ Q, PostT c W R pn σ H M Q (fTst f ρ) → tB te σ H Q := by
  intro R pn σ ρ H M g Q q
  refine h R pn σ ρ H M g _ ?_
  unfold fTst at q
  cases o : f ρ with
  | no => rw [o] at q; exact q
  | ex k ρ' => rw [o] at q; exact q
  | ok d ρ' =>
    rw [o] at q
    intro v H' M' g' r fr
    cases d with
    | bl b => rw [TR] at r; exact ⟨b, r, q H' M' g' fr⟩
    | _ => exact q.elim
theorem dt_cmp {op : CmpOp} {F : D → D → Option D} {e1 e2 : Expr} {f g : Env → O D} {pos : Pos} (ho : OpD X c (compareOp op) F) (h1 : DD X c W e1 f) (h2 : DD X c W e2 g) (hm : behindInMarks op e2 = false) : DT X c W (.Compare e1 [op] [e2] pos) (fTst (fBin F f g)) := by
  obtain ⟨r, hr, hs⟩ := ho
  obtain ⟨ta, tb, pa, pb, h⟩ := two h1 h2
  refine ⟨_, pt_cmpR hr pa pb hm, tst_of (te := tOp r ta tb) fun R pn σ ρ H M g0 Q q => h D F R pn σ ρ H M g0 _ ?_⟩
  unfold fBin at q
  cases o : ((f ρ).bind fun a ρ => (g ρ).bind fun b ρ => (O.opt ρ (F a b))) with
  | no => rw [o] at q; exact q
  | ex k ρ' => rw [o] at q; exact q
  | ok z ρ' =>
    rw [o] at q
    intro x y v u H' M' e g' r1 r2 fr
    exact hs H' M' x y z v u g'.trk r1 r2 e Q fun w H'' gr t => q w H'' M' (g'.gro gr) t (fr.trans (Fr.gro g' gr))
theorem dt_val {e : Expr} {f : Env → O D} (h : DD X c W e f) (he : ∀ whole, isTrue e X.env whole = (do let v ← whole; standAt e.pos; holding [v] (truthy v)) := by intro _; rfl) : DT X c W e (fTst f) := by
  obtain ⟨te, pe, h⟩ := h
  exact ⟨_, pt_val pe he, tst_of h⟩

/-! ### the same, pure -/
def gBin (F : D → D → Option D) (f g : Env → Option D) : Env → Option D := fun ρ => match f ρ, g ρ with
  | some a, some b => F a b
  | _, _ => none
theorem two_p {e1 e2 : Expr} {f g : Env → Option D} (h1 : DP X c e1 f) (h2 : DP X c e2 g) :
    ∃ ta tb : TE, PE X e1 ta ∧ PE X e2 tb ∧ ∀ R pn σ ρ H M, Good c R pn σ ρ H M → ∀ x y, f ρ = some x → g ρ = some y → ∀ (K : V → V → Hp → Prop),
      (∀ v u H', Gro H H' → Good c R pn σ ρ H' M → TR c.K (mask H' M) x v → TR c.K (mask H' M) y u → K v u H') → ta σ H fun v H1 => tb σ H1 fun u H2 => K v u H2 := by
  obtain ⟨ta, pa, h1⟩ := h1
  obtain ⟨tb, pb, h2⟩ := h2
  refine ⟨ta, tb, pa, pb, fun R pn σ ρ H M g0 x y e1 e2 K q => h1 R pn σ ρ H M g0 x e1 _ fun v H1 k1 r1 => h2 R pn σ ρ H1 M (g0.gro k1) y e2 _ fun u H2 k2 r2 => ?_⟩
  exact q v u H2 (k1.trans k2) ((g0.gro k1).gro k2) (r1.mono k2.mask.rx _ _) r2
theorem gBin_some {F : D → D → Option D} {f g : Env → Option D} {ρ : Env} {d : D} (h : gBin F f g ρ = some d) : ∃ x y, f ρ = some x ∧ g ρ = some y ∧ F x y = some d := by
  unfold gBin at h; split at h
  · rename_i a b e1 e2; exact ⟨a, b, e1, e2, h⟩
  · cases h
theorem dp_bin {op : Operator} {F : D → D → Option D} {e1 e2 : Expr} {f g : Env → Option D} {pos : Pos} (ho : OpD X c (binaryOp op) F) (h1 : DP X c e1 f) (h2 : DP X c e2 g) : DP X c (.BinOp e1 op e2 pos) (gBin F f g) := by
  obtain ⟨r, hr, hs⟩ := ho
  obtain ⟨ta, tb, pa, pb, h⟩ := two_p h1 h2
  refine ⟨_, pe_op hr pa pb, fun R pn σ ρ H M g0 d e Q q => ?_⟩
  obtain ⟨x, y, e1, e2, e3⟩ := gBin_some e
  exact h R pn σ ρ H M g0 x y e1 e2 _ fun v u H' k g' r1 r2 => hs H' M x y d v u g'.trk r1 r2 e3 Q fun w H'' gr t => q w H'' (k.trans gr) t
theorem dp_cmp {op : CmpOp} {F : D → D → Option D} {e1 e2 : Expr} {f g : Env → Option D} {pos : Pos} (ho : OpD X c (compareOp op) F) (h1 : DP X c e1 f) (h2 : DP X c e2 g) (hm : behindInMarks op e2 = false) : DP X c (.Compare e1 [op] [e2] pos) (gBin F f g) := by
  obtain ⟨r, hr, hs⟩ := ho
  obtain ⟨ta, tb, pa, pb, h⟩ := two_p h1 h2
  refine ⟨_, pe_cmpR hr pa pb hm, fun R pn σ ρ H M g0 d e Q q => ?_⟩
  obtain ⟨x, y, e1, e2, e3⟩ := gBin_some e
  exact h R pn σ ρ H M g0 x y e1 e2 _ fun v u H' k g' r1 r2 => hs H' M x y d v u g'.trk r1 r2 e3 Q fun w H'' gr t => q w H'' (k.trans gr) t
theorem mask_false {H : Hp} : mask H (fun _ => False) = H := by
  funext a
  exact mask_out fun z => z
/-- a comparison of what is read at once -/
theorem du_two {e1 e2 : Expr} {f g : Env → Option D} (h1 : DU X c e1 f) (h2 : DU X c e2 g) :
    ∃ ta tb : TE, PE X e1 ta ∧ PE X e2 tb ∧ ∀ R pn σ ρ H M, Good c R pn σ ρ H M → ∀ x y, f ρ = some x → g ρ = some y → ∀ (K : V → V → Hp → Prop),
      (∀ v u H', Gro H H' → Good c R pn σ ρ H' M → TR c.K (mask H' fun _ => False) x v → TR c.K (mask H' fun _ => False) y u → K v u H') → ta σ H fun v H1 => tb σ H1 fun u H2 => K v u H2 := by
  obtain ⟨ta, pa, h1⟩ := h1
  obtain ⟨tb, pb, h2⟩ := h2
  refine ⟨ta, tb, pa, pb, fun R pn σ ρ H M g0 x y e1 e2 K q => h1 R pn σ ρ H M g0 x e1 _ fun v H1 k1 r1 => h2 R pn σ ρ H1 M (g0.gro k1) y e2 _ fun u H2 k2 r2 => ?_⟩
  exact q v u H2 (k1.trans k2) ((g0.gro k1).gro k2) (by rw [mask_false]; exact r1.mono k2.rx _ _) (by rw [mask_false]; exact r2)
theorem tr_flat {K : PySem.W.Frag} {H H' : Hp} {d : D} {v : V} (b : Bool) (h : d = .bl b) (r : TR K H d v) : TR K H' d v := by
  subst h; rw [TR] at *; exact r
def gCmp (F : D → D → Option D) (f g : Env → Option D) : Env → Option Bool := fun ρ => match gBin F f g ρ with
  | some (.bl b) => some b
  | _ => none
theorem gCmp_some {F : D → D → Option D} {f g : Env → Option D} {ρ : Env} {b : Bool} (h : gCmp F f g ρ = some b) : ∃ x y, f ρ = some x ∧ g ρ = some y ∧ F x y = some (.bl b) := by
  unfold gCmp at h; split at h
  · rename_i b' e; cases h; exact gBin_some e
  · cases h
theorem dpt_cmp {op : CmpOp} {F : D → D → Option D} {e1 e2 : Expr} {f g : Env → Option D} {pos : Pos} (ho : OpD X c (compareOp op) F) (h1 : DU X c e1 f) (h2 : DU X c e2 g) (hm : behindInMarks op e2 = false) : DPT X c (.Compare e1 [op] [e2] pos) (gCmp F f g) := by
  obtain ⟨r, hr, hs⟩ := ho
  obtain ⟨ta, tb, pa, pb, h⟩ := du_two h1 h2
  refine ⟨_, pt_cmpR hr pa pb hm, fun R pn σ ρ H M g0 d e Q q => ?_⟩
  obtain ⟨x, y, e1, e2, e3⟩ := gCmp_some e
  refine h R pn σ ρ H M g0 x y e1 e2 _ fun v u H' k g' r1 r2 => hs H' _ x y _ v u (fun _ z => z.elim) r1 r2 e3 _ fun w H'' gr t => ?_
  rw [TR] at t
  exact ⟨d, t, q H'' (k.trans gr)⟩
/-- .. as a value -/
def gBl (f : Env → Option Bool) : Env → Option D := fun ρ => (f ρ).map .bl
theorem dp_cmpU {op : CmpOp} {F : D → D → Option D} {e1 e2 : Expr} {f g : Env → Option D} {pos : Pos} (ho : OpD X c (compareOp op) F) (h1 : DU X c e1 f) (h2 : DU X c e2 g) (hm : behindInMarks op e2 = false) : DP X c (.Compare e1 [op] [e2] pos) (gBl (gCmp F f g)) := by
  obtain ⟨r, hr, hs⟩ := ho
  obtain ⟨ta, tb, pa, pb, h⟩ := du_two h1 h2
  refine ⟨_, pe_cmpR hr pa pb hm, fun R pn σ ρ H M g0 d e Q q => ?_⟩
  obtain ⟨b, eb, ed⟩ := Option.map_eq_some_iff.mp e
  subst ed
  obtain ⟨x, y, e1, e2, e3⟩ := gCmp_some eb
  refine h R pn σ ρ H M g0 x y e1 e2 _ fun v u H' k g' r1 r2 => hs H' _ x y _ v u (fun _ z => z.elim) r1 r2 e3 _ fun w H'' gr t => q w H'' (k.trans gr) ?_
  rw [TR] at t ⊢
  exact t
def gTst (f : Env → Option D) : Env → Option Bool := fun ρ => match f ρ with
  | some (.bl b) => some b
  | _ => none
theorem dpt_val {e : Expr} {f : Env → Option D} (h : DP X c e f) (he : ∀ whole, isTrue e X.env whole = (do let v ← whole; standAt e.pos; holding [v] (truthy v)) := by intro _; rfl) : DPT X c e (gTst f) := by
  obtain ⟨te, pe, h⟩ := h
  refine ⟨_, pt_val pe he, fun R pn σ ρ H M g0 b e Q q => ?_⟩
  unfold gTst at e; split at e
  · rename_i b' o
    cases e
    exact h R pn σ ρ H M g0 _ o _ fun v H' k t => ⟨b, by rw [TR] at t; exact t, q H' k⟩
  · cases e
def DPW (X : Cx) (c : Ctx) (e : Expr) (f : Env → Option Bool) : Prop := ∃ tt : TT, PW X e tt ∧ ∀ R pn σ ρ H M, Good c R pn σ ρ H M → ∀ b, f ρ = some b → ∀ Q : Bool → Hp → Prop, (∀ H', Gro H H' → Q b H') → tt σ H Q
def gAnd (f g : Env → Option Bool) : Env → Option Bool := fun ρ => match f ρ with
  | some true => g ρ
  | o => o
def gOr (f g : Env → Option Bool) : Env → Option Bool := fun ρ => match f ρ with
  | some false => g ρ
  | o => o
def gNot (f : Env → Option Bool) : Env → Option Bool := fun ρ => (f ρ).map (!·)
theorem DPW.dpt {e : Expr} {f : Env → Option Bool} (h : DPW X c e f) : DPT X c e f := let ⟨tt, p, q⟩ := h; ⟨tt, p.pt, q⟩
theorem dpw_and1 {e : Expr} {f : Env → Option Bool} {pos : Pos} (h : DPT X c e f) : DPW X c (.BoolOp .And [e] pos) f := let ⟨tt, p, q⟩ := h; ⟨tt, pw_and1 p, q⟩
theorem dpw_or1 {e : Expr} {f : Env → Option Bool} {pos : Pos} (h : DPT X c e f) : DPW X c (.BoolOp .Or [e] pos) f := let ⟨tt, p, q⟩ := h; ⟨tt, pw_or1 p, q⟩
theorem dpw_and {e e2 : Expr} {es : List Expr} {f g : Env → Option Bool} {pos : Pos} (h1 : DPT X c e f) (h2 : DPW X c (.BoolOp .And (e2 :: es) pos) g) : DPW X c (.BoolOp .And (e :: e2 :: es) pos) (gAnd f g) := by
  obtain ⟨t1, p1, h1⟩ := h1
  obtain ⟨t2, p2, h2⟩ := h2
  refine ⟨_, pw_and p1 p2, fun R pn σ ρ H M g0 b e Q q => ?_⟩
  unfold gAnd at e; split at e
  · rename_i o
    exact h1 R pn σ ρ H M g0 _ o _ fun H1 k1 => iteT (h2 R pn σ ρ H1 M (g0.gro k1) b e Q fun H2 k2 => q H2 (k1.trans k2))
  · rename_i ne
    cases b with
    | true => exact (ne e).elim
    | false => exact h1 R pn σ ρ H M g0 _ e _ fun H1 k1 => iteF (q H1 k1)
theorem dpw_or {e e2 : Expr} {es : List Expr} {f g : Env → Option Bool} {pos : Pos} (h1 : DPT X c e f) (h2 : DPW X c (.BoolOp .Or (e2 :: es) pos) g) : DPW X c (.BoolOp .Or (e :: e2 :: es) pos) (gOr f g) := by
  obtain ⟨t1, p1, h1⟩ := h1
  obtain ⟨t2, p2, h2⟩ := h2
  refine ⟨_, pw_or p1 p2, fun R pn σ ρ H M g0 b e Q q => ?_⟩
  unfold gOr at e; split at e
  · rename_i o
    exact h1 R pn σ ρ H M g0 _ o _ fun H1 k1 => iteF (h2 R pn σ ρ H1 M (g0.gro k1) b e Q fun H2 k2 => q H2 (k1.trans k2))
  · rename_i ne
    cases b with
    | false => exact (ne e).elim
    | true => exact h1 R pn σ ρ H M g0 _ e _ fun H1 k1 => iteT (q H1 k1)
theorem dpt_not {e : Expr} {f : Env → Option Bool} {pos : Pos} (h1 : DPT X c e f) : DPT X c (.UnaryOp .Not e pos) (gNot f) := by
  obtain ⟨t1, p1, h1⟩ := h1
  refine ⟨_, pt_not p1, fun R pn σ ρ H M g0 b e Q q => ?_⟩
  obtain ⟨b', o, rfl⟩ := Option.map_eq_some_iff.mp e
  exact h1 R pn σ ρ H M g0 _ o _ fun H1 k1 => q H1 k1
def gNil : Env → Option (List D) := fun _ => some []
def gCons (f : Env → Option D) (g : Env → Option (List D)) : Env → Option (List D) := fun ρ => match f ρ, g ρ with
  | some d, some ds => some (d :: ds)
  | _, _ => none
theorem dpa_nil : DPA X c [] gNil := ⟨_, pa_nil, fun R pn σ ρ H M g ds e Q q => by cases e; exact q [] H (Gro.refl H) trs_nil⟩
theorem dpa_cons {e : Expr} {es : List Expr} {f : Env → Option D} {g : Env → Option (List D)} (h1 : DP X c e f) (h2 : DPA X c es g) (hs : starEach (e :: es) X.env = (false, eval e X.env) :: starEach es X.env := by rfl) : DPA X c (e :: es) (gCons f g) := by
  obtain ⟨t1, p1, h1⟩ := h1
  obtain ⟨t2, p2, h2⟩ := h2
  refine ⟨_, pa_cons p1 p2 hs, fun R pn σ ρ H M g0 ds e Q q => ?_⟩
  unfold gCons at e; split at e
  · rename_i d ds' o1 o2
    cases e
    exact h1 R pn σ ρ H M g0 d o1 _ fun v H1 k1 r1 => h2 R pn σ ρ H1 M (g0.gro k1) ds' o2 _ fun vs H2 k2 r2 => q (v :: vs) H2 (k1.trans k2) (trs_cons (r1.mono k2.mask.rx _ _) r2)
  · cases e
def gTup (f : Env → Option (List D)) : Env → Option D := fun ρ => match f ρ with
  | some ds => if ds.length ≤ sizeLine then some (.tup ds) else none
  | none => none
theorem tr_tup_new {ds : List D} {vs : List V} {p : Addr} (hp : H p = none) (hm : ¬ M p) (r : TRs c.K (mask H M) ds vs) : TR c.K (mask (upd H p (.tup vs)) M) (.tup ds) (.ref p) := by
  rw [TR]
  refine ⟨p, vs, rfl, .inl (.inl ?_), r.mono (mask_new hp) _ _⟩
  rw [mask_out hm, upd_same]
theorem dp_tup {es : List Expr} {f : Env → Option (List D)} {k : Nat} {pos : Pos} (h : DPA X c es f) : DP X c (.Tuple es k pos) (gTup f) := by
  obtain ⟨t, p, h⟩ := h
  refine ⟨_, pe_tup p, fun R pn σ ρ H M g0 d e Q q => ?_⟩
  unfold gTup at e; split at e
  · rename_i ds o
    split at e
    · rename_i hl
      cases e
      exact h R pn σ ρ H M g0 ds o _ fun vs H1 k1 r1 => ⟨by rw [← r1.len]; exact hl, fun a hp => q (.ref a) _ (k1.trans (Gro.new hp)) (tr_tup_new hp ((g0.gro k1).fresh hp) r1)⟩
    · cases e
  · cases e

/-! ### and, or, not, conditional expressions -/
def fAnd (f g : Env → O Bool) : Env → O Bool := fun ρ => (f ρ).bind fun b ρ => if b then g ρ else .ok false ρ
def fOr (f g : Env → O Bool) : Env → O Bool := fun ρ => (f ρ).bind fun b ρ => if b then .ok true ρ else g ρ
def fNot (f : Env → O Bool) : Env → O Bool := fun ρ => (f ρ).bind fun b ρ => .ok (!b) ρ
/-- a test whatever its whole is -/
def DW (X : Cx) (c : Ctx) (W : WX) (e : Expr) (f : Env → O Bool) : Prop := ∃ tt : TT, PW X e tt ∧ ∀ R pn σ ρ H M, Good c R pn σ ρ H M → ∀ Q, PostT c W R pn σ H M Q (f ρ) → tt σ H Q
theorem DW.dt {e : Expr} {f : Env → O Bool} (h : DW X c W e f) : DT X c W e f := let ⟨tt, p, q⟩ := h; ⟨tt, p.pt, q⟩
theorem dw_and1 {e : Expr} {f : Env → O Bool} {pos : Pos} (h : DT X c W e f) : DW X c W (.BoolOp .And [e] pos) f := let ⟨tt, p, q⟩ := h; ⟨tt, pw_and1 p, q⟩
theorem dw_or1 {e : Expr} {f : Env → O Bool} {pos : Pos} (h : DT X c W e f) : DW X c W (.BoolOp .Or [e] pos) f := let ⟨tt, p, q⟩ := h; ⟨tt, pw_or1 p, q⟩
theorem seqT {f : Env → O Bool} {k : Bool → Env → O Bool} {tt : TT} (h : ∀ R pn σ ρ H M, Good c R pn σ ρ H M → ∀ Q, PostT c W R pn σ H M Q (f ρ) → tt σ H Q)
    (g0 : Good c R pn σ ρ H M) {Q : Bool → Hp → Prop} {Q' : Bool → Hp → Prop} (q : PostT c W R pn σ H M Q ((f ρ).bind k))
    (hk : ∀ b ρ1 H1 M1, Good c R pn σ ρ1 H1 M1 → PostT c W R pn σ H1 M1 Q (k b ρ1) → Q' b H1) : tt σ H Q' := by
  refine h R pn σ ρ H M g0 _ ?_
  cases o : f ρ with
  | no => rw [o] at q; exact q
  | ex k ρ' => rw [o] at q; exact q
  | ok b ρ1 => rw [o] at q; exact fun H1 M1 g1 fr => hk b ρ1 H1 M1 g1 (PostT.after q fr)
theorem dw_and {e e2 : Expr} {es : List Expr} {f g : Env → O Bool} {pos : Pos} (h1 : DT X c W e f) (h2 : DW X c W (.BoolOp .And (e2 :: es) pos) g) : DW X c W (.BoolOp .And (e :: e2 :: es) pos) (fAnd f g) := by
  obtain ⟨t1, p1, h1⟩ := h1
  obtain ⟨t2, p2, h2⟩ := h2
  refine ⟨_, pw_and p1 p2, fun R pn σ ρ H M g0 Q q => seqT h1 g0 q fun b ρ1 H1 M1 g1 q1 => ?_⟩
  cases b with
  | true => exact iteT (h2 R pn σ ρ1 H1 M1 g1 Q q1)
  | false => exact iteF (q1 H1 M1 g1 Fr.refl)
theorem dw_or {e e2 : Expr} {es : List Expr} {f g : Env → O Bool} {pos : Pos} (h1 : DT X c W e f) (h2 : DW X c W (.BoolOp .Or (e2 :: es) pos) g) : DW X c W (.BoolOp .Or (e :: e2 :: es) pos) (fOr f g) := by
  obtain ⟨t1, p1, h1⟩ := h1
  obtain ⟨t2, p2, h2⟩ := h2
  refine ⟨_, pw_or p1 p2, fun R pn σ ρ H M g0 Q q => seqT h1 g0 q fun b ρ1 H1 M1 g1 q1 => ?_⟩
  cases b with
  | true => exact iteT (q1 H1 M1 g1 Fr.refl)
  | false => exact iteF (h2 R pn σ ρ1 H1 M1 g1 Q q1)
theorem dt_not {e : Expr} {f : Env → O Bool} {pos : Pos} (h1 : DT X c W e f) : DT X c W (.UnaryOp .Not e pos) (fNot f) := by
  obtain ⟨t1, p1, h1⟩ := h1
  exact ⟨_, pt_not p1, fun R pn σ ρ H M g0 Q q => seqT h1 g0 q fun b ρ1 H1 M1 g1 q1 => q1 H1 M1 g1 Fr.refl⟩

/-! ### arguments, tuples, lists -/
def fNil : Env → O (List D) := fun ρ => .ok [] ρ
def fCons (f : Env → O D) (g : Env → O (List D)) : Env → O (List D) := fun ρ => (f ρ).bind fun d ρ => (g ρ).bind fun ds ρ => .ok (d :: ds) ρ
theorem da_nil : DA X c W [] fNil := ⟨_, pa_nil, fun R pn σ ρ H M g Q q => q [] H M g trs_nil Fr.refl⟩
theorem da_cons {e : Expr} {es : List Expr} {f : Env → O D} {g : Env → O (List D)} (h1 : DD X c W e f) (h2 : DA X c W es g) (hs : starEach (e :: es) X.env = (false, eval e X.env) :: starEach es X.env := by rfl) : DA X c W (e :: es) (fCons f g) := by
  obtain ⟨t1, p1, h1⟩ := h1
  obtain ⟨t2, p2, h2⟩ := h2
  refine ⟨_, pa_cons p1 p2 hs, fun R pn σ ρ H M g0 Q q => h1 R pn σ ρ H M g0 _ ?_⟩
  unfold fCons at q
  cases o : f ρ with
  | no => rw [o] at q; exact q
  | ex k ρ' => rw [o] at q; exact q
  | ok d ρ1 =>
    rw [o] at q
    intro v H1 M1 g1 r1 fr1
    refine h2 R pn σ ρ1 H1 M1 g1 _ ?_
    dsimp only [O.bind] at q
    cases o2 : g ρ1 with
    | no => rw [o2] at q; exact q
    | ex k ρ' => rw [o2] at q; exact fun H' M' g' f' => q H' M' g' (fr1.trans f')
    | ok ds ρ2 =>
      rw [o2] at q
      exact fun vs H2 M2 g2 r2 fr2 => q (v :: vs) H2 M2 g2 (trs_cons (r1.mono fr2.rx _ _) r2) (fr1.trans fr2)
/-- an argument list, then something made of the values -/
theorem seqA {f : Env → O (List D)} {ta : TA} {Q' : List V → Hp → Prop} {P : O (List D) → Prop} (h : ∀ R pn σ ρ H M, Good c R pn σ ρ H M → ∀ Q, PostA c W R pn σ H M Q (f ρ) → ta σ H Q)
    (g0 : Good c R pn σ ρ H M) (q : PostA c W R pn σ H M Q' (f ρ)) : ta σ H Q' := h R pn σ ρ H M g0 Q' q
def fTup (f : Env → O (List D)) : Env → O D := fun ρ => (f ρ).bind fun ds ρ => if ds.length ≤ sizeLine then .ok (.tup ds) ρ else .no
theorem dd_tup {es : List Expr} {f : Env → O (List D)} {k : Nat} {pos : Pos} (h : DA X c W es f) : DD X c W (.Tuple es k pos) (fTup f) := by
  obtain ⟨t, p, h⟩ := h
  refine ⟨_, pe_tup p, fun R pn σ ρ H M g0 Q q => h R pn σ ρ H M g0 _ ?_⟩
  unfold fTup at q
  cases o : f ρ with
  | no => rw [o] at q; exact q
  | ex k ρ' => rw [o] at q; exact q
  | ok ds ρ1 =>
    rw [o] at q
    intro vs H1 M1 g1 r1 fr1
    dsimp only [O.bind] at q
    split at q
    · rename_i hl
      refine ⟨by rw [← r1.len]; exact hl, fun a hp => ?_⟩
      exact q (.ref a) _ M1 (g1.new hp) (tr_tup_new hp (g1.fresh hp) r1) (fr1.trans (Fr.new g1 hp))
    · exact q.elim
theorem ors_dat {Hd : Hp} : ∀ {ds : List D} {vs : List V} {A : AS}, TRs c.K Hd ds vs → ORs c Hd H (ds.map .dat) vs A
  | [], vs, A, h => by rw [TRs] at h; rw [List.map_nil, ORs]; exact h
  | d :: ds, vs, A, h => by
    rw [TRs] at h; obtain ⟨v, r, e, y, z⟩ := h
    rw [List.map_cons, ORs]
    exact ⟨v, r, fun _ => False, fun _ => False, e, or_dat y, ors_dat z, fun _ z => z.elim, fun _ z => z.elim, fun _ z => z.elim⟩
/-- a list of data, the holder's own -/
def lstD (ds : List D) : S := .lst (ds.map .dat)
theorem or_lst {Hd : Hp} {ds : List D} {vs : List V} {a : Addr} {A : AS} (h : H a = some (.lst vs)) (r : TRs c.K Hd ds vs) (ha : A a) : OR c Hd H (lstD ds) (.ref a) A := by
  unfold lstD
  rw [OR]
  exact ⟨a, vs, fun _ => False, rfl, h, ha, fun z => z, fun _ z => z.elim, ors_dat r⟩
/-- a new list of data -/
theorem new_lst {Q : VK} {ds : List D} {vs : List V} {p : Addr} (g : Good c R pn σ ρ H M) (hp : H p = none) (r : TRs c.K (mask H M) ds vs) (q : PostE c W R pn σ H M Q (.ok (lstD ds) ρ)) : Q (.ref p) (upd H p (.lst vs)) :=
  q (.ref p) _ _ (fun a => a = p) (g.newM hp) (fun a e z => g.trk a (g.sub a z) (by rw [e]; exact hp)) (or_lst upd_same (r.mono (mask_newM hp) _ _) rfl) (Fr.newM g hp)
def fLst (f : Env → O (List D)) : Env → O S := fun ρ => (f ρ).bind fun ds ρ => if ds.length ≤ sizeLine then .ok (lstD ds) ρ else .no
theorem de_lst {es : List Expr} {f : Env → O (List D)} {pos : Pos} (h : DA X c W es f) : DE X c W (.List es pos) (fLst f) := by
  obtain ⟨t, p, h⟩ := h
  refine ⟨_, pe_lst p, fun R pn σ ρ H M g0 Q q => h R pn σ ρ H M g0 _ ?_⟩
  unfold fLst at q
  cases o : f ρ with
  | no => rw [o] at q; exact q
  | ex k ρ' => rw [o] at q; exact q
  | ok ds ρ1 =>
    rw [o] at q
    intro vs H1 M1 g1 r1 fr1
    dsimp only [O.bind] at q
    split at q
    · rename_i hl
      exact ⟨by rw [← r1.len]; exact hl, fun a hp => new_lst g1 hp r1 (PostE.after q fr1)⟩
    · exact q.elim
end
end DL

/-! DL2: operators on data. -/
namespace DL
open PySem L2 PyProof.Rows
open Classical

mutual
/-- as the library's data -/
def D.P : D → Option PyData
  | .non => some .none
  | .bl b => some (.bool b)
  | .int i => some (.int i)
  | .str s => some (.str s)
  | .tup ds => (D.Ps ds).map .tuple
  | .lst ds => (D.Ps ds).map .list
  | .dic _ _ => none
  | .ref _ => none
def D.Ps : List D → Option (List PyData)
  | [] => some []
  | d :: ds => match D.P d, D.Ps ds with
    | some p, some ps => some (p :: ps)
    | _, _ => none
end
section
variable {K : PySem.W.Frag} {H : Hp}
mutual
theorem TR.dp : ∀ (d : D) (v : V) (p : PyData), TR K H d v → d.P = some p → Dp K H v p
  | .non, v, p, h, e => by rw [TR] at h; rw [D.P] at e; cases e; subst h; exact .non
  | .bl b, v, p, h, e => by rw [TR] at h; rw [D.P] at e; cases e; subst h; exact .bl b
  | .int b, v, p, h, e => by rw [TR] at h; rw [D.P] at e; cases e; subst h; exact .int b
  | .str b, v, p, h, e => by rw [TR] at h; rw [D.P] at e; cases e; subst h; exact .str b
  | .tup ds, v, p, h, e => by
    rw [TR] at h; obtain ⟨a, vs, rfl, y, z⟩ := h
    rw [D.P] at e
    cases q : D.Ps ds with
    | none => rw [q] at e; cases e
    | some ps => rw [q] at e; cases e; exact .tup y (TRs.dp ds vs ps z q)
  | .lst ds, v, p, h, e => by
    rw [TR] at h; obtain ⟨a, vs, rfl, y, z⟩ := h
    rw [D.P] at e
    cases q : D.Ps ds with
    | none => rw [q] at e; cases e
    | some ps => rw [q] at e; cases e; exact .lst y (TRs.dp ds vs ps z q)
  | .dic _ _, v, p, h, e => by rw [D.P] at e; cases e
  | .ref _, v, p, h, e => by rw [D.P] at e; cases e
theorem TRs.dp : ∀ (ds : List D) (vs : List V) (ps : List PyData), TRs K H ds vs → D.Ps ds = some ps → DpAll K H vs ps
  | [], vs, ps, h, e => by rw [TRs] at h; rw [D.Ps] at e; cases e; subst h; exact .nil
  | d :: ds, vs, ps, h, e => by
    rw [TRs] at h; obtain ⟨v, r, rfl, y, z⟩ := h
    rw [D.Ps] at e
    cases q1 : D.P d with
    | none => rw [q1] at e; simp at e
    | some p =>
      cases q2 : D.Ps ds with
      | none => rw [q1, q2] at e; simp at e
      | some ps' => rw [q1, q2] at e; simp at e; subst e; exact .cons (TR.dp d v p y q1) (TRs.dp ds r ps' z q2)
end
end
def D.flat : D → Bool
  | .non => true | .bl _ => true | .int _ => true | .str _ => true | _ => false

theorem seqT_full {K : PySem.W.Frag} {H : Hp} {M : AS} {a : Addr} {xs : List V} (h : SqT K (mask H M) a xs) : SqT K H a xs := seqT_mono Rx.full h
theorem seqL_full {K : PySem.W.Frag} {H : Hp} {M : AS} {a : Addr} {xs : List V} (h : SqL K (mask H M) a xs) : SqL K H a xs := seqL_mono Rx.full h
section
variable {X : Cx} {c : Ctx} {W : WX}
/-- ints in, under C -/
theorem opd_int {op : Value → Value → Sem Value} {C : Int → Int → Prop} {g : Int → Int → Int} {F : D → D → Option D} (h : OpR X op (rI C fun i j => .int (g i j))) (hF : ∀ x y d, F x y = some d → ∃ i j, x = .int i ∧ y = .int j ∧ C i j ∧ d = .int (g i j)) : OpD X c op F := by
  refine ⟨_, h, fun H M x y d v u _ r1 r2 e Q q => ?_⟩
  obtain ⟨i, j, rfl, rfl, hc, rfl⟩ := hF x y d e
  rw [TR] at r1 r2
  exact ⟨i, j, r1, r2, hc, q _ H (Gro.refl H) (by rw [TR])⟩
theorem opd_int0 {op : Value → Value → Sem Value} {g : Int → Int → V} {g' : Int → Int → D} {F : D → D → Option D} (h : OpR X op (rI0 g)) (hg : ∀ i j H, TR c.K H (g' i j) (g i j)) (hF : ∀ x y d, F x y = some d → ∃ i j, x = .int i ∧ y = .int j ∧ d = g' i j) : OpD X c op F := by
  refine ⟨_, h, fun H M x y d v u _ r1 r2 e Q q => ?_⟩
  obtain ⟨i, j, rfl, rfl, rfl⟩ := hF x y d e
  rw [TR] at r1 r2
  exact ⟨i, j, r1, r2, q _ H (Gro.refl H) (hg i j _)⟩
/-- of two rules either -/
theorem OpD.or {op : Value → Value → Sem Value} {F G L : D → D → Option D} (h : OpD X c op F) (h' : OpD X c op G) (hL : ∀ x y d, L x y = some d → F x y = some d ∨ G x y = some d) : OpD X c op L := by
  obtain ⟨r, h1, h2⟩ := h
  obtain ⟨r', h1', h2'⟩ := h'
  refine ⟨_, h1.or h1', fun H M x y d v u tk r1 r2 e Q q => ?_⟩
  rcases hL x y d e with e | e
  · exact .inl (h2 H M x y d v u tk r1 r2 e Q q)
  · exact .inr (h2' H M x y d v u tk r1 r2 e Q q)

def D.addI : D → D → Option D
  | .int i, .int j => some (.int (i + j))
  | _, _ => none
def D.addS : D → D → Option D
  | .str i, .str j => if i.length + j.length ≤ sizeLine then some (.str (i ++ j)) else none
  | _, _ => none
def D.addT : D → D → Option D
  | .tup i, .tup j => if i.length + j.length ≤ sizeLine then some (.tup (i ++ j)) else none
  | _, _ => none
/-- a + b (but of lists) -/
def D.add : D → D → Option D
  | .int i, .int j => some (.int (i + j))
  | .str i, .str j => if i.length + j.length ≤ sizeLine then some (.str (i ++ j)) else none
  | .tup i, .tup j => if i.length + j.length ≤ sizeLine then some (.tup (i ++ j)) else none
  | _, _ => none
theorem od_add (hK : c.K = X.K) : OpD X c (binaryOp .Add) D.add := by
  have h1 : OpD X c (binaryOp .Add) D.addI := opd_int0 op_add (g' := fun i j => .int (i + j)) (fun i j H => by rw [TR]) fun x y d e => by
    unfold D.addI at e; split at e
    · cases e; exact ⟨_, _, rfl, rfl, rfl⟩
    · cases e
  have h2 : OpD X c (binaryOp .Add) D.addS := by
    refine ⟨_, op_add_str, fun H M x y d v u _ r1 r2 e Q q => ?_⟩
    unfold D.addS at e; split at e
    · split at e
      · rename_i hl
        cases e; rw [TR] at r1 r2
        exact ⟨_, _, r1, r2, hl, q _ H (Gro.refl H) (by rw [TR])⟩
      · cases e
    · cases e
  have h3 : OpD X c (binaryOp .Add) D.addT := by
    refine ⟨_, op_catA, fun H M x y d v u tk r1 r2 e Q q => ?_⟩
    unfold D.addT at e; split at e
    · split at e
      · rename_i ds es hl
        cases e
        have s1 := r1; have s2 := r2
        rw [TR] at s1 s2
        obtain ⟨a, xs, rfl, s1, t1⟩ := s1
        obtain ⟨b, ys, rfl, s2, t2⟩ := s2
        rw [hK] at s1 s2
        refine ⟨a, b, xs, ys, rfl, rfl, seqT_full s1, seqT_full s2, by rw [← t1.len, ← t2.len]; exact hl, fun e1 => ?_, fun _ e1 => ?_, fun _ _ p hp => ?_⟩
        · subst e1
          have e2 : ds = [] := List.length_eq_zero_iff.mp t1.len
          subst e2
          exact q _ H (Gro.refl H) r2
        · subst e1
          have e2 : es = [] := List.length_eq_zero_iff.mp t2.len
          subst e2
          exact q _ H (Gro.refl H) (by rw [List.append_nil]; exact r1)
        · exact q _ _ (Gro.new hp) (tr_tup_new hp (fun z => tk p z hp) (t1.append t2))
      · cases e
    · cases e
  refine h1.or (h2.or h3 (L := fun x y => match x, y with | .int _, .int _ => none | x, y => D.add x y) ?_) ?_
  · intro x y d e
    cases x <;> cases y <;> first | exact .inl e | exact .inr e | cases e
  · intro x y d e
    cases x <;> cases y <;> first | exact .inl e | exact .inr e | cases e
def D.sub : D → D → Option D
  | .int i, .int j => some (.int (i - j))
  | _, _ => none
theorem od_sub : OpD X c (binaryOp .Sub) D.sub := opd_int0 op_sub (g' := fun i j => .int (i - j)) (fun i j H => by rw [TR]) fun x y d e => by
  unfold D.sub at e; split at e
  · cases e; exact ⟨_, _, rfl, rfl, rfl⟩
  · cases e
def smallI (i : Int) : Bool := decide (-(2 ^ 64) < i) && decide (i < 2 ^ 64)
/-- a * b of ints, one of them small -/
def D.mul : D → D → Option D
  | .int i, .int j => if smallI i || smallI j then some (.int (i * j)) else none
  | _, _ => none
theorem od_mul : OpD X c (binaryOp .Mult) D.mul := opd_int op_mul fun x y d e => by
  unfold D.mul at e; split at e
  · split at e
    · rename_i i j h
      cases e
      refine ⟨i, j, rfl, rfl, ?_, rfl⟩
      rcases (Bool.or_eq_true _ _).mp h with h | h
      · have := Bool.and_eq_true_iff.mp h
        exact .inl ⟨of_decide_eq_true this.1, of_decide_eq_true this.2⟩
      · have := Bool.and_eq_true_iff.mp h
        exact .inr ⟨of_decide_eq_true this.1, of_decide_eq_true this.2⟩
    · cases e
  · cases e
def D.fdiv : D → D → Option D
  | .int i, .int j => if 0 < j ∧ j < 1073741824 then some (.int (i / j)) else none
  | _, _ => none
theorem od_fdiv : OpD X c (binaryOp .FloorDiv) D.fdiv := opd_int op_fdiv fun x y d e => by
  unfold D.fdiv at e; split at e
  · split at e
    · rename_i i j h
      cases e
      exact ⟨i, j, rfl, rfl, h, rfl⟩
    · cases e
  · cases e
def D.mod : D → D → Option D
  | .int i, .int j => if 0 < j then some (.int (i % j)) else none
  | _, _ => none
theorem od_mod : OpD X c (binaryOp .Mod) D.mod := opd_int op_mod fun x y d e => by
  unfold D.mod at e; split at e
  · split at e
    · rename_i i j h
      cases e
      exact ⟨i, j, rfl, rfl, h, rfl⟩
    · cases e
  · cases e
def D.pow : D → D → Option D
  | .int i, .int j => if 0 ≤ j ∧ j ≤ 1000000 ∧ i.natAbs < 2 ^ 64 then some (.int (i ^ j.toNat)) else none
  | _, _ => none
theorem od_pow : OpD X c (binaryOp .Pow) D.pow := opd_int op_pow fun x y d e => by
  unfold D.pow at e; split at e
  · split at e
    · rename_i i j h
      cases e
      exact ⟨i, j, rfl, rfl, h, rfl⟩
    · cases e
  · cases e
def D.shr : D → D → Option D
  | .int i, .int j => if 0 ≤ j then some (.int (i / 2 ^ j.toNat)) else none
  | _, _ => none
theorem od_shr : OpD X c (binaryOp .RShift) D.shr := opd_int op_shr fun x y d e => by
  unfold D.shr at e; split at e
  · split at e
    · rename_i i j h
      cases e
      exact ⟨i, j, rfl, rfl, h, rfl⟩
    · cases e
  · cases e
def D.band : D → D → Option D
  | .int i, .int j => some (.int (Builtin.bitAnd i j))
  | _, _ => none
theorem od_and : OpD X c (binaryOp .BitAnd) D.band := opd_int0 op_and (g' := fun i j => .int (Builtin.bitAnd i j)) (fun i j H => by rw [TR]) fun x y d e => by
  unfold D.band at e; split at e
  · cases e; exact ⟨_, _, rfl, rfl, rfl⟩
  · cases e

/-! ### comparisons -/
def D.lt : D → D → Option D
  | .int i, .int j => some (.bl (decide (i < j)))
  | _, _ => none
def D.le : D → D → Option D
  | .int i, .int j => some (.bl (decide (i ≤ j)))
  | _, _ => none
def D.gt : D → D → Option D
  | .int i, .int j => some (.bl (decide (j < i)))
  | _, _ => none
def D.ge : D → D → Option D
  | .int i, .int j => some (.bl (decide (j ≤ i)))
  | _, _ => none
theorem od_lt : OpD X c (compareOp .Lt) D.lt := opd_int0 op_lt (g' := fun i j => .bl (decide (i < j))) (fun i j H => by rw [TR]) fun x y d e => by
  unfold D.lt at e; split at e
  · cases e; exact ⟨_, _, rfl, rfl, rfl⟩
  · cases e
theorem od_le : OpD X c (compareOp .LtE) D.le := opd_int0 op_le (g' := fun i j => .bl (decide (i ≤ j))) (fun i j H => by rw [TR]) fun x y d e => by
  unfold D.le at e; split at e
  · cases e; exact ⟨_, _, rfl, rfl, rfl⟩
  · cases e
theorem od_gt : OpD X c (compareOp .Gt) D.gt := opd_int0 op_gt (g' := fun i j => .bl (decide (j < i))) (fun i j H => by rw [TR]) fun x y d e => by
  unfold D.gt at e; split at e
  · cases e; exact ⟨_, _, rfl, rfl, rfl⟩
  · cases e
theorem od_ge : OpD X c (compareOp .GtE) D.ge := opd_int0 op_ge (g' := fun i j => .bl (decide (j ≤ i))) (fun i j H => by rw [TR]) fun x y d e => by
  unfold D.ge at e; split at e
  · cases e; exact ⟨_, _, rfl, rfl, rfl⟩
  · cases e
/-- == on data: as the library's data; none where it isn't told -/
def D.eqb (x y : D) : Option Bool := match x.P, y.P with
  | some p, some q => if SeqAt.shaped p && SeqAt.shaped q then some (PyData.eqv p q) else none
  | _, _ => none
def D.eq (x y : D) : Option D := (D.eqb x y).map .bl
def D.ne (x y : D) : Option D := (D.eqb x y).map fun b => .bl (!b)
theorem eqb_some {x y : D} {b : Bool} (h : D.eqb x y = some b) : ∃ p q, x.P = some p ∧ y.P = some q ∧ SeqAt.shaped p = true ∧ SeqAt.shaped q = true ∧ b = PyData.eqv p q := by
  unfold D.eqb at h; split at h
  · rename_i p q e1 e2
    split at h
    · rename_i hs
      cases h
      have := Bool.and_eq_true_iff.mp hs
      exact ⟨p, q, e1, e2, this.1, this.2, rfl⟩
    · cases h
  · cases h
theorem od_eq (hK : c.K = X.K) (hu : X.A.units + 64 < cLine) : OpD X c (compareOp .Eq) D.eq := by
  refine ⟨_, op_eqD hu, fun H M x y d v u _ r1 r2 e Q q => ?_⟩
  obtain ⟨b, h, rfl⟩ := Option.map_eq_some_iff.mp e
  obtain ⟨p, p', e1, e2, s1, s2, rfl⟩ := eqb_some h
  rw [hK] at r1 r2
  exact ⟨p, p', TR.dp _ _ _ (r1.mono Rx.full _ _) e1, TR.dp _ _ _ (r2.mono Rx.full _ _) e2, s1, s2, q _ H (Gro.refl H) (by rw [TR])⟩
theorem od_ne (hK : c.K = X.K) (hu : X.A.units + 64 < cLine) : OpD X c (compareOp .NotEq) D.ne := by
  refine ⟨_, op_neD hu, fun H M x y d v u _ r1 r2 e Q q => ?_⟩
  obtain ⟨b, h, rfl⟩ := Option.map_eq_some_iff.mp e
  obtain ⟨p, p', e1, e2, s1, s2, rfl⟩ := eqb_some h
  rw [hK] at r1 r2
  exact ⟨p, p', TR.dp _ _ _ (r1.mono Rx.full _ _) e1, TR.dp _ _ _ (r2.mono Rx.full _ _) e2, s1, s2, q _ H (Gro.refl H) (by rw [TR])⟩
/-- is None -/
def D.isNon : D → Bool
  | .non => true
  | _ => false
def D.isN (x y : D) : Option D := match y with
  | .non => some (.bl x.isNon)
  | _ => none
def D.notN (x y : D) : Option D := match y with
  | .non => some (.bl (!x.isNon))
  | _ => none
theorem TR.isNon {K : PySem.W.Frag} {H : Hp} {x : D} {v : V} (r : TR K H x v) : decide (v = .non) = x.isNon := by
  cases x <;> rw [TR] at r
  · subst r; rfl
  · subst r; rfl
  · subst r; rfl
  · subst r; rfl
  · obtain ⟨a, vs, rfl, _⟩ := r; rfl
  · obtain ⟨a, vs, rfl, _⟩ := r; rfl
  · obtain ⟨a, vs, rfl, _⟩ := r; rfl
  · subst r; rfl
theorem od_isN : OpD X c (compareOp .Is) D.isN := by
  refine ⟨_, op_isN, fun H M x y d v u _ r1 r2 e Q q => ?_⟩
  unfold D.isN at e; split at e
  · cases e
    rw [TR] at r2
    exact ⟨r2, q _ H (Gro.refl H) (by rw [TR, r1.isNon])⟩
  · cases e
theorem od_notN : OpD X c (compareOp .IsNot) D.notN := by
  refine ⟨_, op_notN, fun H M x y d v u _ r1 r2 e Q q => ?_⟩
  unfold D.notN at e; split at e
  · cases e
    rw [TR] at r2
    exact ⟨r2, q _ H (Gro.refl H) (by rw [TR, r1.isNon])⟩
  · cases e

/-! ### in -/
def D.flats (ds : List D) : Bool := ds.all D.flat
def D.eqF : D → D → Bool
  | .non, .non => true
  | .bl a, .bl b => a == b
  | .bl a, .int j => (if a then 1 else 0) == j
  | .int i, .bl b => i == (if b then 1 else 0)
  | .int i, .int j => i == j
  | .str x, .str y => x == y
  | _, _ => false
theorem flat_V {K : PySem.W.Frag} {H : Hp} {x : D} {v : V} (r : TR K H x v) (h : x.flat = true) : flatV v = true := by
  cases x <;> rw [TR] at r <;> first | (subst r; rfl) | (cases h)
theorem eqF_V {K : PySem.W.Frag} {H : Hp} {x y : D} {v u : V} (r : TR K H x v) (h : x.flat = true) (r' : TR K H y u) (h' : y.flat = true) : eqV v u = x.eqF y := by
  cases x <;> rw [TR] at r <;> first | (subst r; cases y <;> rw [TR] at r' <;> first | (subst r'; rfl) | (cases h')) | (cases h)
theorem flats_V {K : PySem.W.Frag} {H : Hp} : ∀ {ds : List D} {vs : List V}, TRs K H ds vs → D.flats ds = true → vs.all flatV = true
  | [], vs, r, h => by rw [TRs] at r; subst r; rfl
  | d :: ds, vs, r, h => by
    rw [TRs] at r; obtain ⟨v, q, rfl, y, z⟩ := r
    have h' := Bool.and_eq_true_iff.mp (show (D.flat d && ds.all D.flat) = true from by simpa [D.flats] using h)
    rw [List.all_cons, flat_V y h'.1, flats_V z h'.2]; rfl
/-- x in a list or tuple of flat things -/
def D.inF (x : D) (ds : List D) : Bool := ds.any fun y => y.eqF x
theorem inF_V {K : PySem.W.Frag} {H : Hp} {x : D} {v : V} (r : TR K H x v) (h : x.flat = true) : ∀ {ds : List D} {vs : List V}, TRs K H ds vs → D.flats ds = true → inV v vs = D.inF x ds
  | [], vs, q, _ => by rw [TRs] at q; subst q; rfl
  | d :: ds, vs, q, e => by
    rw [TRs] at q; obtain ⟨u, w, rfl, y, z⟩ := q
    have h' := Bool.and_eq_true_iff.mp (show (D.flat d && ds.all D.flat) = true from by simpa [D.flats] using e)
    have ih := inF_V r h z h'.2
    unfold inV D.inF at *
    rw [List.any_cons, List.any_cons, ih, eqF_V y h'.1 r h]
/-- x in y: a sign in a text; a flat thing in a list or tuple of flat things; data in a list -/
def D.inb (x y : D) : Option Bool := match y with
  | .str z => match x with
    | .str w => if w.length = 1 then some (decide (w.cps.getD 0 0 ∈ z.cps.toList)) else none
    | _ => none
  | .tup ds => if x.flat && D.flats ds then some (D.inF x ds) else none
  | .lst ds => if x.flat && D.flats ds then some (D.inF x ds) else match x.P, D.Ps ds with
    | some p, some ps => if SeqAt.shaped p && SeqAt.shaped (.list ps) then some (ps.any fun z => PyData.eqv z p) else none
    | _, _ => none
  | _ => none
def D.isIn (x y : D) : Option D := (D.inb x y).map .bl
def D.notIn (x y : D) : Option D := (D.inb x y).map fun b => .bl (!b)
theorem one_sign {w : Str} (h : w.length = 1) : w = ⟨#[w.cps.getD 0 0]⟩ := by
  obtain ⟨a⟩ := w
  have h' : a.size = 1 := h
  congr 1
  apply Array.ext
  · simp [h']
  · intro i h1 h2
    have : i = 0 := by omega
    subst this
    simp [Array.getD, h']
/-- what the readings of in and not in have in common -/
theorem in_read (hK : c.K = X.K) {neg : Bool} {rs rd : R2} (hs : ∀ H x y Q, (∃ (c : Nat) (z : Str), x = .str ⟨#[c]⟩ ∧ y = .str z ∧ Q (.bl (neg.xor (decide (c ∈ z.cps.toList)))) H) → rs x y H Q)
    (hd : ∀ H x y Q, (∃ d ds, Dp X.K H x d ∧ Dp X.K H y (.list ds) ∧ SeqAt.shaped d = true ∧ SeqAt.shaped (.list ds) = true ∧ Q (.bl (neg.xor (ds.any fun z => PyData.eqv z d))) H) → rd x y H Q)
    (H : Hp) (M : AS) (x y : D) (b : Bool) (v u : V) (r1 : TR c.K (mask H M) x v) (r2 : TR c.K (mask H M) y u) (e : D.inb x y = some b) (Q : VK) (q : Q (.bl (neg.xor b)) H) : rs v u H Q ∨ rIn X.K neg v u H Q ∨ rd v u H Q := by
  have f1 := r1.mono Rx.full _ _
  have f2 := r2.mono Rx.full _ _
  rw [hK] at f1 f2
  unfold D.inb at e
  cases y with
  | str z =>
    cases x with
    | str w =>
      simp only at e; split at e
      · rename_i h1
        cases e
        rw [TR] at f1 f2
        exact .inl (hs _ _ _ _ ⟨w.cps.getD 0 0, z, by rw [f1]; exact congrArg V.str (one_sign h1), f2, q⟩)
      · cases e
    | _ => cases e
  | tup ds =>
    simp only at e; split at e
    · rename_i h
      cases e
      have h' := Bool.and_eq_true_iff.mp h
      rw [TR] at f2
      obtain ⟨a, vs, rfl, s, t⟩ := f2
      refine .inr (.inl ⟨a, vs, rfl, .inr s, flat_V f1 h'.1, flats_V t h'.2, ?_⟩)
      rw [inF_V f1 h'.1 t h'.2]
      cases neg
      · simpa using q
      · simpa using q
    · cases e
  | lst ds =>
    simp only at e; split at e
    · rename_i h
      cases e
      have h' := Bool.and_eq_true_iff.mp h
      rw [TR] at f2
      obtain ⟨a, vs, rfl, s, t⟩ := f2
      refine .inr (.inl ⟨a, vs, rfl, .inl s, flat_V f1 h'.1, flats_V t h'.2, ?_⟩)
      rw [inF_V f1 h'.1 t h'.2]
      cases neg
      · simpa using q
      · simpa using q
    · split at e
      · rename_i p ps e1 e2
        split at e
        · rename_i h
          cases e
          have h' := Bool.and_eq_true_iff.mp h
          have e3 : (D.lst ds).P = some (.list ps) := by rw [D.P, e2]; rfl
          exact .inr (.inr (hd _ _ _ _ ⟨p, ps, TR.dp _ _ _ f1 e1, TR.dp _ _ _ f2 e3, h'.1, h'.2, q⟩))
        · cases e
      · cases e
  | _ => cases e
theorem od_in (hK : c.K = X.K) (hu : X.A.units + 65 < cLine) : OpD X c (compareOp .In) D.isIn := by
  refine ⟨_, op_in_sign.or (op_in_seq.or (op_inD hu)), fun H M x y d v u _ r1 r2 e Q q => ?_⟩
  obtain ⟨b, h, rfl⟩ := Option.map_eq_some_iff.mp e
  refine in_read hK (neg := false) (rs := fun x y H Q => ∃ (c : Nat) (z : Str), x = .str ⟨#[c]⟩ ∧ y = .str z ∧ Q (.bl (decide (c ∈ z.cps.toList))) H) (rd := rInD X.K) (fun H x y Q h => ?_) (fun H x y Q h => ?_) H M x y b v u r1 r2 h Q (by simpa using q _ H (Gro.refl H) (by rw [TR]))
  · simpa using h
  · simpa [rInD] using h
theorem od_notIn (hK : c.K = X.K) (hu : X.A.units + 65 < cLine) : OpD X c (compareOp .NotIn) D.notIn := by
  refine ⟨_, op_notIn_sign.or (op_notIn_seq.or (op_notInD hu)), fun H M x y d v u _ r1 r2 e Q q => ?_⟩
  obtain ⟨b, h, rfl⟩ := Option.map_eq_some_iff.mp e
  refine in_read hK (neg := true) (rs := fun x y H Q => ∃ (c : Nat) (z : Str), x = .str ⟨#[c]⟩ ∧ y = .str z ∧ Q (.bl (!decide (c ∈ z.cps.toList))) H) (rd := rNotInD X.K) (fun H x y Q h => ?_) (fun H x y Q h => ?_) H M x y b v u r1 r2 h Q (by simpa using q _ H (Gro.refl H) (by rw [TR]))
  · simpa using h
  · simpa [rNotInD] using h
end
end DL

/-! DL3: chains, fields, items, slices, built-ins, walks, comprehensions: all that changes nothing. -/
namespace DL
open PySem L2 PyProof.Rows
open Classical
section
variable {X : Cx} {c : Ctx} {W : WX} {R : AS} {pn : List (Nat × V)} {σ : L2.St} {ρ : Env} {H H1 : Hp} {M M1 : AS}

/-! ### chains, conditional expressions -/
def gChain (F G : D → D → Option D) (f g h : Env → Option D) : Env → Option D := fun ρ => match f ρ, g ρ with
  | some a, some b => match F a b with
    | some (.bl true) => match h ρ with
      | some d => G b d
      | none => none
    | some (.bl false) => some (.bl false)
    | _ => none
  | _, _ => none
theorem dp_chain {op op' : CmpOp} {F G : D → D → Option D} {e1 e2 e3 : Expr} {f g h : Env → Option D} {pos : Pos} (ho : OpD X c (compareOp op) F) (ho' : OpD X c (compareOp op') G) (h1 : DP X c e1 f) (h2 : DP X c e2 g) (h3 : DP X c e3 h)
    (hm : lastMarks [op, op'] [e2, e3] = false := by with_unfolding_all rfl) : DP X c (.Compare e1 [op, op'] [e2, e3] pos) (gChain F G f g h) := by
  obtain ⟨r, hr, hs⟩ := ho
  obtain ⟨r', hr', hs'⟩ := ho'
  obtain ⟨ta, pa, h1⟩ := h1
  obtain ⟨tb, pb, h2⟩ := h2
  obtain ⟨tc, pc, h3⟩ := h3
  refine ⟨_, pe_chain hr hr' pa pb pc hm, fun R pn σ ρ H M g0 d e Q q => ?_⟩
  unfold gChain at e
  split at e
  · rename_i a b o1 o2
    refine h1 R pn σ ρ H M g0 a o1 _ fun v H1 k1 t1 => h2 R pn σ ρ H1 M (g0.gro k1) b o2 _ fun u H2 k2 t2 => ?_
    have g2 := (g0.gro k1).gro k2
    split at e
    · rename_i oF
      refine hs H2 M a b _ v u g2.trk (t1.mono k2.mask.rx _ _) t2 oF _ fun w H3 k3 t3 => ?_
      rw [TR] at t3
      split at e
      · rename_i z o3
        exact ⟨true, t3, iteT (h3 R pn σ ρ H3 M (g2.gro k3) z o3 _ fun w' H4 k4 t4 => hs' H4 M b z d u w' ((g2.gro k3).gro k4).trk (t2.mono (k3.trans k4).mask.rx _ _) t4 e Q fun w2 H5 k5 t5 => q w2 H5 ((((k1.trans k2).trans k3).trans k4).trans k5) t5)⟩
      · cases e
    · rename_i oF
      cases e
      refine hs H2 M a b _ v u g2.trk (t1.mono k2.mask.rx _ _) t2 oF _ fun w H3 k3 t3 => ?_
      rw [TR] at t3
      exact ⟨false, t3, iteF (q _ H3 ((k1.trans k2).trans k3) (by rw [TR]))⟩
    · cases e
  · cases e
theorem dpt_chain {op op' : CmpOp} {F G : D → D → Option D} {e1 e2 e3 : Expr} {f g h : Env → Option D} {pos : Pos} (ho : OpD X c (compareOp op) F) (ho' : OpD X c (compareOp op') G) (h1 : DP X c e1 f) (h2 : DP X c e2 g) (h3 : DP X c e3 h)
    (hm : lastMarks [op, op'] [e2, e3] = false := by with_unfolding_all rfl) : DPT X c (.Compare e1 [op, op'] [e2, e3] pos) (gTst (gChain F G f g h)) := by
  obtain ⟨r, hr, hs⟩ := ho
  obtain ⟨r', hr', hs'⟩ := ho'
  obtain ⟨ta, pa, h1⟩ := h1
  obtain ⟨tb, pb, h2⟩ := h2
  obtain ⟨tc, pc, h3⟩ := h3
  refine ⟨_, pt_chain hr hr' pa pb pc hm, fun R pn σ ρ H M g0 d e Q q => ?_⟩
  unfold gTst gChain at e
  split at e
  · rename_i b' e'
    cases e
    split at e'
    · rename_i a b o1 o2
      refine h1 R pn σ ρ H M g0 a o1 _ fun v H1 k1 t1 => h2 R pn σ ρ H1 M (g0.gro k1) b o2 _ fun u H2 k2 t2 => ?_
      have g2 := (g0.gro k1).gro k2
      split at e'
      · rename_i oF
        refine hs H2 M a b _ v u g2.trk (t1.mono k2.mask.rx _ _) t2 oF _ fun w H3 k3 t3 => ?_
        rw [TR] at t3
        split at e'
        · rename_i z o3
          refine ⟨true, t3, iteT (h3 R pn σ ρ H3 M (g2.gro k3) z o3 _ fun w' H4 k4 t4 => hs' H4 M b z _ u w' ((g2.gro k3).gro k4).trk (t2.mono (k3.trans k4).mask.rx _ _) t4 e' _ fun w2 H5 k5 t5 => ?_)⟩
          rw [TR] at t5
          exact ⟨d, t5, q H5 ((((k1.trans k2).trans k3).trans k4).trans k5)⟩
        · cases e'
      · rename_i oF
        cases e'
        refine hs H2 M a b _ v u g2.trk (t1.mono k2.mask.rx _ _) t2 oF _ fun w H3 k3 t3 => ?_
        rw [TR] at t3
        exact ⟨false, t3, iteF ⟨false, rfl, q H3 ((k1.trans k2).trans k3)⟩⟩
      · cases e'
    · cases e'
  · cases e
def gIf (t : Env → Option Bool) (f g : Env → Option D) : Env → Option D := fun ρ => match t ρ with
  | some true => f ρ
  | some false => g ρ
  | none => none
theorem dp_if {e1 e2 e3 : Expr} {t : Env → Option Bool} {f g : Env → Option D} {pos : Pos} (h1 : DPT X c e1 t) (h2 : DP X c e2 f) (h3 : DP X c e3 g) : DP X c (.IfExp e1 e2 e3 pos) (gIf t f g) := by
  obtain ⟨tt, pt, h1⟩ := h1
  obtain ⟨ta, pa, h2⟩ := h2
  obtain ⟨tb, pb, h3⟩ := h3
  refine ⟨_, pe_ifExp pt pa pb, fun R pn σ ρ H M g0 d e Q q => ?_⟩
  unfold gIf at e
  split at e
  · rename_i o
    exact h1 R pn σ ρ H M g0 _ o _ fun H1 k1 => iteT (h2 R pn σ ρ H1 M (g0.gro k1) d e Q fun v H2 k2 t2 => q v H2 (k1.trans k2) t2)
  · rename_i o
    exact h1 R pn σ ρ H M g0 _ o _ fun H1 k1 => iteF (h3 R pn σ ρ H1 M (g0.gro k1) d e Q fun v H2 k2 t2 => q v H2 (k1.trans k2) t2)
  · cases e

/-! ### fields -/
def lookS (f : Str) : List Str → List S → Option S
  | n :: ns, s :: ss => if f = n then some s else lookS f ns ss
  | _, _ => none
theorem lookS_get {Hd H : Hp} {f : Str} : ∀ {ns : List Str} {ss : List S} {vs : List V} {B : AS} {s : S}, ORs c Hd H ss vs B → lookS f ns ss = some s → ∃ v A, (ns.zip vs).lookup f = some v ∧ OR c Hd H s v A ∧ ∀ a, A a → B a
  | [], ss, vs, B, s, _, e => by cases ss <;> simp [lookS] at e
  | n :: ns, [], vs, B, s, _, e => by simp [lookS] at e
  | n :: ns, x :: ss, vs, B, s, h, e => by
    rw [ORs] at h; obtain ⟨v, r, A1, A2, rfl, y, z, dj, s1, s2⟩ := h
    rw [lookS] at e
    by_cases hf : f = n
    · rw [if_pos hf] at e; cases e
      refine ⟨v, A1, ?_, y, s1⟩
      simp [List.zip_cons_cons, List.lookup, hf]
    · rw [if_neg hf] at e
      obtain ⟨u, A, h1, h2, h3⟩ := lookS_get z e
      refine ⟨u, A, ?_, h2, fun a q => s2 a (h3 a q)⟩
      have : (f == n) = false := by simpa using hf
      rw [List.zip_cons_cons, List.lookup_cons, this]; exact h1
def S.fld (k f : Str) : S → Option S
  | .ins k' ns ss => if k' = k then lookS f ns ss else none
  | _ => none
def gFld (k f : Str) (g : Env → Option S) : Env → Option S := fun ρ => (g ρ).bind fun s => s.fld k f
theorem db_fld {e : Expr} {k f : Str} {g : Env → Option S} {pos : Pos} (hC : Cls X.K (c.ca k)) (hN : NoAttr X.K (c.ca k) f) (h : DB X c e g) (hb : attributeBase e f X.env (eval e X.env) = eval e X.env) : DB X c (.Attribute e f pos) (gFld k f g) := by
  obtain ⟨te, pe, h⟩ := h
  refine ⟨_, pe_fld pe hb, fun R pn σ ρ H M g0 t e Q q => ?_⟩
  obtain ⟨s, o, e⟩ := Option.bind_eq_some_iff.mp e
  refine h R pn σ ρ H M g0 s o _ fun v H1 A k1 r => ?_
  cases s with
  | ins k' ns ss =>
    have e' : (if k' = k then lookS f ns ss else none) = some t := e
    by_cases hk : k' = k
    · rw [if_pos hk] at e'
      subst hk
      rw [OR] at r
      obtain ⟨a, dx, vs, B, rfl, ha, hl, hA, hB, hs, ro⟩ := r
      obtain ⟨w, A', e1, e2, _⟩ := lookS_get ro e'
      exact ⟨a, _, dx, _, w, rfl, ha, hC, hN, e1, q w H1 A' k1 e2⟩
    · rw [if_neg hk] at e'; cases e'
  | _ => cases e

/-! ### items of sequences -/
def S.ix : S → D → Option S
  | .dat (.lst ds), .int i => (atI ds i).map .dat
  | .dat (.tup ds), .int i => (atI ds i).map .dat
  | .dat (.str z), .int i => if z.length ≤ sizeLine then (atI z.cps.toList i).map fun n => .dat (.str ⟨#[n]⟩) else none
  | .lst xs, .int i => atI xs i
  | _, _ => none
theorem ORs.get {Hd H : Hp} : ∀ {xs : List S} {vs : List V} {A : AS} {i : Nat} {x : S}, ORs c Hd H xs vs A → xs[i]? = some x → ∃ v B, vs[i]? = some v ∧ OR c Hd H x v B ∧ ∀ a, B a → A a
  | [], vs, A, i, x, h, e => by simp at e
  | y :: xs, vs, A, 0, x, h, e => by
    rw [ORs] at h; obtain ⟨v, r, A1, A2, rfl, p, q, dj, s1, s2⟩ := h
    simp at e; subst e
    exact ⟨v, A1, rfl, p, s1⟩
  | y :: xs, vs, A, i + 1, x, h, e => by
    rw [ORs] at h; obtain ⟨v, r, A1, A2, rfl, p, q, dj, s1, s2⟩ := h
    obtain ⟨u, B, h1, h2, h3⟩ := ORs.get (i := i) (x := x) q (by simpa using e)
    exact ⟨u, B, by simpa using h1, h2, fun a z => s2 a (h3 a z)⟩
theorem ixN_of {n : Nat} {i : Int} {j : Nat} (h : ixN n i = some j) {α : Type} (xs : List α) (hl : xs.length = n) : atI xs i = xs[j]? := by
  unfold atI; rw [hl, h]; rfl
theorem atI_bind {α : Type} {xs : List α} {i : Int} {x : α} (h : atI xs i = some x) : ∃ j, ixN xs.length i = some j ∧ xs[j]? = some x := by
  unfold atI at h
  obtain ⟨j, h1, h2⟩ := Option.bind_eq_some_iff.mp h
  exact ⟨j, h1, h2⟩
theorem atI_trs {K : PySem.W.Frag} {H : Hp} {ds : List D} {vs : List V} {i : Int} {d : D} (r : TRs K H ds vs) (h : atI ds i = some d) : ∃ v, atI vs i = some v ∧ TR K H d v := by
  obtain ⟨j, h1, h2⟩ := atI_bind h
  obtain ⟨v, h3, h4⟩ := r.get h2
  exact ⟨v, by rw [ixN_of h1 vs r.len.symm]; exact h3, h4⟩
theorem ixR_seq {X : Cx} : IxR X (fun x y H Q => rIxL X.K x y H Q ∨ rIxT X.K x y H Q ∨ rIxS x y H Q) := ix_list.or (ix_tup.or ix_str)
theorem ix_read (hK : c.K = X.K) {s t : S} {d : D} {v u : V} {A : AS} {Q : VK} (r : OR c (mask H M) H s v A) (r2 : TR c.K (mask H M) d u) (e : s.ix d = some t) (q : ∀ w A, OR c (mask H M) H t w A → Q w H) :
    rIxL X.K v u H Q ∨ rIxT X.K v u H Q ∨ rIxS v u H Q := by
  have fin : ∀ i : Int, TR c.K (mask H M) (.int i) u → u = .int i := fun i h => by rw [TR] at h; exact h
  cases s with
  | dat z =>
    rw [OR] at r
    cases z with
    | lst ds =>
      cases d with
      | int i =>
        obtain ⟨x, hx, rfl⟩ := Option.map_eq_some_iff.mp e
        rw [TR] at r
        obtain ⟨a, vs, rfl, sq, ts⟩ := r
        obtain ⟨w, hw, tw⟩ := atI_trs ts hx
        rw [hK] at sq
        exact .inl ⟨a, vs, i, w, rfl, fin i r2, seqL_full sq, hw, q w (fun _ => False) (or_dat tw)⟩
      | _ => cases e
    | tup ds =>
      cases d with
      | int i =>
        obtain ⟨x, hx, rfl⟩ := Option.map_eq_some_iff.mp e
        rw [TR] at r
        obtain ⟨a, vs, rfl, sq, ts⟩ := r
        obtain ⟨w, hw, tw⟩ := atI_trs ts hx
        rw [hK] at sq
        exact .inr (.inl ⟨a, vs, i, w, rfl, fin i r2, seqT_full sq, hw, q w (fun _ => False) (or_dat tw)⟩)
      | _ => cases e
    | str z =>
      cases d with
      | int i =>
        have e' : (if z.length ≤ sizeLine then (atI z.cps.toList i).map (fun n => S.dat (.str ⟨#[n]⟩)) else none) = some t := e
        by_cases hz : z.length ≤ sizeLine
        · rw [if_pos hz] at e'
          obtain ⟨x, hx, rfl⟩ := Option.map_eq_some_iff.mp e'
          rw [TR] at r
          exact .inr (.inr ⟨z, i, x, r, fin i r2, hz, hx, q _ (fun _ => False) (or_dat (by rw [TR]))⟩)
        · rw [if_neg hz] at e'; cases e'
      | _ => cases e
    | _ => cases d <;> cases e
  | lst xs =>
    cases d with
    | int i =>
      rw [OR] at r
      obtain ⟨a, vs, B, rfl, ha, hA, hB, hs, ro⟩ := r
      obtain ⟨j, h1, h2⟩ := atI_bind (show atI xs i = some t from e)
      obtain ⟨w, B', h3, h4, _⟩ := ro.get h2
      exact .inl ⟨a, vs, i, w, rfl, fin i r2, .inl (.inl ha), by rw [ixN_of h1 vs ro.len.symm]; exact h3, q w B' h4⟩
    | _ => cases e
  | dic _ _ => cases d <;> cases e
  | ins _ _ _ => cases d <;> cases e
def gIx (f : Env → Option S) (g : Env → Option D) : Env → Option S := fun ρ => match f ρ, g ρ with
  | some s, some d => s.ix d
  | _, _ => none
theorem db_ix {e i : Expr} {f : Env → Option S} {g : Env → Option D} {pos : Pos} (hK : c.K = X.K) (h1 : DB X c e f) (h2 : DP X c i g) (hs : PlainIx i) : DB X c (.Subscript e i pos) (gIx f g) := by
  obtain ⟨te, pe, h1⟩ := h1
  obtain ⟨ti, pi, h2⟩ := h2
  refine ⟨_, pe_ix ixR_seq pe pi hs, fun R pn σ ρ H M g0 t e Q q => ?_⟩
  unfold gIx at e
  split at e
  · rename_i s d o1 o2
    refine h1 R pn σ ρ H M g0 s o1 _ fun v H1 A k1 r1 => h2 R pn σ ρ H1 M (g0.gro k1) d o2 _ fun u H2 k2 r2 => ?_
    exact ix_read hK (OR.gro k2.mask.rx k2 _ _ _ r1) r2 e fun w A t => q w H2 A (k1.trans k2) t
  · cases e
/-- data, then an index that may change what is owned -/
def fIx (f g : Env → O D) : Env → O D := fun ρ => (f ρ).bind fun a ρ => (g ρ).bind fun b ρ => .opt ρ (match S.ix (.dat a) b with
  | some (.dat d) => some d
  | _ => none)
theorem dd_ix {e i : Expr} {f g : Env → O D} {pos : Pos} (hK : c.K = X.K) (h1 : DD X c W e f) (h2 : DD X c W i g) (hs : PlainIx i) : DD X c W (.Subscript e i pos) (fIx f g) := by
  obtain ⟨ta, tb, pa, pb, h⟩ := two h1 h2
  refine ⟨_, pe_ix ixR_seq pa pb hs, fun R pn σ ρ H M g0 Q q => h D (fun a b => match S.ix (.dat a) b with
    | some (.dat d) => some d
    | _ => none) R pn σ ρ H M g0 _ ?_⟩
  unfold fIx at q
  cases o : ((f ρ).bind fun a ρ => (g ρ).bind fun b ρ => (O.opt ρ (match S.ix (.dat a) b with
    | some (.dat d) => some d
    | _ => none))) with
  | no => rw [o] at q; exact q
  | ex k ρ' => rw [o] at q; exact q
  | ok z ρ' =>
    rw [o] at q
    intro x y v u H' M' e g' r1 r2 fr
    split at e
    · rename_i d hd
      cases e
      exact ix_read (A := fun _ => False) hK (or_dat r1) r2 hd fun w A t => q w H' M' g' (by rw [OR] at t; exact t) fr
    · cases e

/-! ### slices -/
/-- a part of a slice: none, or an int -/
def DO (X : Cx) (c : Ctx) (e : Option Expr) (f : Env → Option (Option Int)) : Prop := ∃ te : TO, PO X e te ∧ ∀ R pn σ ρ H M, Good c R pn σ ρ H M → ∀ d, f ρ = some d → ∀ Q : Option Int → Hp → Prop, (∀ H', Gro H H' → Q d H') → te σ H Q
def gPart (f : Env → Option D) : Env → Option (Option Int) := fun ρ => match f ρ with
  | some (.int i) => some (some i)
  | _ => none
theorem do_none : DO X c none (fun _ => some none) := ⟨_, po_none, fun R pn σ ρ H M g d e Q q => by cases e; exact q H (Gro.refl H)⟩
theorem do_some {e : Expr} {f : Env → Option D} (h : DP X c e f) : DO X c (some e) (gPart f) := by
  obtain ⟨te, pe, h⟩ := h
  refine ⟨_, po_some pe, fun R pn σ ρ H M g d e Q q => ?_⟩
  unfold gPart at e; split at e
  · rename_i i o
    cases e
    exact h R pn σ ρ H M g _ o _ fun v H1 k1 t => ⟨i, by rw [TR] at t; exact t, q H1 k1⟩
  · cases e
def cutD (ds : List D) (lo hi : Option Int) : List D := (ds.drop (HT.sIx ds.length 0 lo)).take (HT.sIx ds.length ds.length hi - HT.sIx ds.length 0 lo)
theorem TRs.cut {K : PySem.W.Frag} {H : Hp} {ds : List D} {vs : List V} (lo hi : Option Int) (r : TRs K H ds vs) : TRs K H (cutD ds lo hi) (cutV vs lo hi) := by
  unfold cutD cutV; rw [r.len]; exact TRs.take _ (TRs.drop _ r)
/-- a slice of a text, of a tuple -/
def D.cut (lo hi : Option Int) : D → Option D
  | .str z => if z.length ≤ sizeLine then some (.str (cutS z lo hi)) else none
  | .tup ds => some (.tup (cutD ds lo hi))
  | _ => none
def gCut (f : Env → Option D) (l h : Env → Option (Option Int)) : Env → Option D := fun ρ => match f ρ, l ρ, h ρ with
  | some d, some lo, some hi => D.cut lo hi d
  | _, _, _ => none
theorem slR_data {X : Cx} : SlR X (fun x lo hi H Q => rSlS x lo hi H Q ∨ rSlA X.K x lo hi H Q) := sl_str.or sl_tupA
theorem cut_whole {ds : List D} {lo hi : Option Int} (h : HT.sIx ds.length 0 lo = 0 ∧ HT.sIx ds.length ds.length hi = ds.length) : cutD ds lo hi = ds := by
  unfold cutD; rw [h.1, h.2]; simp
theorem dp_cut {e : Expr} {lo hi : Option Expr} {f : Env → Option D} {l h : Env → Option (Option Int)} {p2 pos : Pos} (hK : c.K = X.K) (h1 : DP X c e f) (h2 : DO X c lo l) (h3 : DO X c hi h) : DP X c (.Subscript e (.Slice lo hi none p2) pos) (gCut f l h) := by
  obtain ⟨te, pe, h1⟩ := h1
  obtain ⟨tl, pl, h2⟩ := h2
  obtain ⟨th, ph, h3⟩ := h3
  refine ⟨_, pe_slice slR_data pe pl ph, fun R pn σ ρ H M g0 d e Q q => ?_⟩
  unfold gCut at e; split at e
  · rename_i x lo hi o1 o2 o3
    refine h1 R pn σ ρ H M g0 x o1 _ fun v H1 k1 t1 => h2 R pn σ ρ H1 M (g0.gro k1) lo o2 _ fun H2 k2 => h3 R pn σ ρ H2 M ((g0.gro k1).gro k2) hi o3 _ fun H3 k3 => ?_
    have t3 := t1.mono (k2.trans k3).mask.rx _ _
    have g3 := ((g0.gro k1).gro k2).gro k3
    have kk := (k1.trans k2).trans k3
    cases x with
    | str z =>
      have e' : (if z.length ≤ sizeLine then some (D.str (cutS z lo hi)) else none) = some d := e
      by_cases hz : z.length ≤ sizeLine
      · rw [if_pos hz] at e'; cases e'
        rw [TR] at t3
        exact .inl ⟨z, t3, hz, q _ H3 kk (by rw [TR])⟩
      · rw [if_neg hz] at e'; cases e'
    | tup ds =>
      cases e
      have t4 := t3
      rw [TR] at t4
      obtain ⟨a, vs, rfl, sq, ts⟩ := t4
      rw [hK] at sq
      refine .inr ⟨a, vs, rfl, seqT_full sq, fun hw => q _ H3 kk ?_, fun hw p hp => q _ _ (kk.trans (Gro.new hp)) (tr_tup_new hp (g3.fresh hp) (ts.cut lo hi))⟩
      rw [← ts.len] at hw
      rw [cut_whole hw]; exact t3
    | _ => cases e
  · cases e

/-! ### a new list of data -/
/-- a new list of data: nothing else changes -/
def DLs (X : Cx) (c : Ctx) (e : Expr) (f : Env → Option (List D)) : Prop := ∃ te : TE, PE X e te ∧ ∀ R pn σ ρ H M, Good c R pn σ ρ H M → ∀ ds, f ρ = some ds → ∀ Q : VK,
  (∀ p H' vs, H p = none → Gro H H' → H' p = some (.lst vs) → TRs c.K (mask H' (un M fun a => a = p)) ds vs → Q (.ref p) H') → te σ H Q
def asL (f : Env → Option (List D)) : Env → Option D := fun ρ => (f ρ).map .lst
def fL (f : Env → Option (List D)) : Env → O S := fun ρ => .opt ρ ((f ρ).map lstD)
theorem DLs.dp {e : Expr} {f : Env → Option (List D)} (h : DLs X c e f) : DP X c e (asL f) := by
  obtain ⟨te, pe, h⟩ := h
  refine ⟨te, pe, fun R pn σ ρ H M g0 d e Q q => ?_⟩
  obtain ⟨ds, o, rfl⟩ := Option.map_eq_some_iff.mp e
  refine h R pn σ ρ H M g0 ds o Q fun p H' vs hp k hl t => q _ H' k ?_
  rw [TR]
  exact ⟨p, vs, rfl, .inl (.inl (by rw [mask_out (g0.fresh hp)]; exact hl)), t.mono (Rx.unmask fun a h => .inl h) _ _⟩
theorem Good.addM {p : Addr} {o : HO} {H' : Hp} (g : Good c R pn σ ρ H M) (hp : H p = none) (k : Gro H H') (h' : H' p = some o) : Good c (DL.un R fun a => a = p) pn σ ρ H' (DL.un M fun a => a = p) := by
  have g1 := g.newM (o := o) hp
  have kk : Gro (upd H p o) H' := fun a u e => by
    by_cases z : a = p
    · rw [z, upd_same] at e; cases e; rw [z]; exact h'
    · rw [upd_ne z] at e; exact k _ _ e
  exact g1.gro kk
theorem Fr.addM {p : Addr} {o : HO} {H' : Hp} (g : Good c R pn σ ρ H M) (hp : H p = none) (k : Gro H H') (h' : H' p = some o) : Fr R H M H' (DL.un M fun a => a = p) := by
  have g1 := g.newM (o := o) hp
  have kk : Gro (upd H p o) H' := fun a u e => by
    by_cases z : a = p
    · rw [z, upd_same] at e; cases e; rw [z]; exact h'
    · rw [upd_ne z] at e; exact k _ _ e
  exact (Fr.newM (o := o) g hp).trans ((Fr.gro g1 kk).anti fun _ => .inl)
theorem DLs.de {e : Expr} {f : Env → Option (List D)} (h : DLs X c e f) : DE X c W e (fL f) := by
  obtain ⟨te, pe, h⟩ := h
  refine ⟨te, pe, fun R pn σ ρ H M g0 Q q => ?_⟩
  unfold fL at q
  cases o : f ρ with
  | none => rw [o] at q; exact q.elim
  | some ds =>
    rw [o] at q
    exact h R pn σ ρ H M g0 ds o Q fun p H' vs hp k hl t => q (.ref p) H' _ (fun a => a = p) (g0.addM hp k hl) (fun a e z => g0.fresh hp (by rw [← e]; exact g0.sub a z)) (or_lst hl t rfl) (Fr.addM g0 hp k hl)
def gLst (f : Env → Option (List D)) : Env → Option (List D) := fun ρ => match f ρ with
  | some ds => if ds.length ≤ sizeLine then some ds else none
  | none => none
theorem dl_lst {es : List Expr} {f : Env → Option (List D)} {pos : Pos} (h : DPA X c es f) : DLs X c (.List es pos) (gLst f) := by
  obtain ⟨t, p, h⟩ := h
  refine ⟨_, pe_lst p, fun R pn σ ρ H M g0 ds e Q q => ?_⟩
  unfold gLst at e; split at e
  · rename_i ds' o
    split at e
    · rename_i hl
      cases e
      exact h R pn σ ρ H M g0 _ o _ fun vs H1 k1 r1 => ⟨by rw [← r1.len]; exact hl, fun a hp => q a _ vs (by
        cases z : H a with
        | none => rfl
        | some o => rw [k1 a o z] at hp; cases hp) (k1.trans (Gro.new hp)) upd_same (r1.mono (mask_newM hp) _ _)⟩
    · cases e
  · cases e
/-- the items of a list or a tuple that is read -/
def S.items : S → Option (List D)
  | .dat (.lst ds) => some ds
  | .dat (.tup ds) => some ds
  | .lst xs => xs.mapM fun x => match x with
    | .dat d => some d
    | _ => none
  | _ => none
theorem ors_items {Hd H : Hp} : ∀ {xs : List S} {vs : List V} {A : AS} {ds : List D}, ORs c Hd H xs vs A → (xs.mapM fun x => match x with
    | .dat d => some d
    | _ => none) = some ds → TRs c.K Hd ds vs
  | [], vs, A, ds, h, e => by
    rw [ORs] at h; subst h
    simp at e; subst e; exact trs_nil
  | x :: xs, vs, A, ds, h, e => by
    rw [ORs] at h; obtain ⟨v, r, A1, A2, rfl, y, z, _⟩ := h
    rw [List.mapM_cons] at e
    cases x with
    | dat d =>
      obtain ⟨d', e1, e⟩ := Option.bind_eq_some_iff.mp e
      cases e1
      obtain ⟨ds', e2, e⟩ := Option.bind_eq_some_iff.mp e
      cases e
      rw [OR] at y
      exact trs_cons y (ors_items z e2)
    | _ => cases e
theorem items_read (hK : c.K = X.K) {s : S} {v : V} {A : AS} {ds : List D} (r : OR c (mask H M) H s v A) (e : s.items = some ds) : ∃ a vs, v = .ref a ∧ (SqL X.K H a vs ∨ SqT X.K H a vs) ∧ TRs c.K (mask H M) ds vs := by
  cases s with
  | dat d =>
    rw [OR] at r
    cases d with
    | lst xs =>
      cases e; rw [TR] at r
      obtain ⟨a, vs, rfl, sq, ts⟩ := r
      rw [hK] at sq
      exact ⟨a, vs, rfl, .inl (seqL_full sq), ts⟩
    | tup xs =>
      cases e; rw [TR] at r
      obtain ⟨a, vs, rfl, sq, ts⟩ := r
      rw [hK] at sq
      exact ⟨a, vs, rfl, .inr (seqT_full sq), ts⟩
    | _ => cases e
  | lst xs =>
    rw [OR] at r
    obtain ⟨a, vs, B, rfl, ha, hA, hB, hs, ro⟩ := r
    exact ⟨a, vs, rfl, .inl (.inl (.inl ha)), ors_items ro e⟩
  | _ => cases e
end
end DL

/-! DL4: built-ins, methods of texts, lists joined, what a loop walks, comprehensions. -/
namespace DL
open PySem L2 PyProof.Rows
open Classical
section
variable {X : Cx} {c : Ctx} {W : WX} {R : AS} {pn : List (Nat × V)} {σ : L2.St} {ρ : Env} {H H1 : Hp} {M M1 : AS}
theorem none_of_gro {H H' : Hp} {a : Addr} (k : Gro H H') (h : H' a = none) : H a = none := by
  cases z : H a with
  | none => rfl
  | some o => rw [k a o z] at h; cases h

/-! ### calls of built-ins -/
/-- a call on values, told on data -/
def CallD (X : Cx) (c : Ctx) (f : Value) (F : List D → Option D) : Prop :=
  ∃ r : List V → Hp → VK → Prop, CallR X f r ∧ ∀ (H : Hp) (M : AS) (ds : List D) (vs : List V) (z : D), (∀ a, M a → H a ≠ none) → TRs c.K (mask H M) ds vs → F ds = some z → ∀ Q : VK, (∀ w H', Gro H H' → TR c.K (mask H' M) z w → Q w H') → r vs H Q
theorem CallD.or {f : Value} {F G L : List D → Option D} (h : CallD X c f F) (h' : CallD X c f G) (hL : ∀ ds z, L ds = some z → F ds = some z ∨ G ds = some z) : CallD X c f L := by
  obtain ⟨r, h1, h2⟩ := h
  obtain ⟨r', h1', h2'⟩ := h'
  refine ⟨_, h1.or h1', fun H M ds vs z tk t e Q q => ?_⟩
  rcases hL ds z e with e | e
  · exact .inl (h2 H M ds vs z tk t e Q q)
  · exact .inr (h2' H M ds vs z tk t e Q q)
def gCall (F : List D → Option D) (f : Env → Option (List D)) : Env → Option D := fun ρ => (f ρ).bind F
theorem dp_callB {id : String} {F : List D → Option D} {x : Str} {p pos : Pos} {e : Expr} {es : List Expr} {f : Env → Option (List D)} (hc : CallD X c (.builtin id) F) (hg : Gl X x) (hm : X.mg x = none) (hv : bootBuiltins x = some (.builtin id)) (ha : DPA X c (e :: es) f)
    (hn : x ≠ "__name__" := by decide) (hdb : (x == ("__debug__" : Str)) = false := by decide) (he : starEach (e :: es) X.env = (false, eval e X.env) :: starEach es X.env := by rfl) (hpl : (backTo pos (starEach es X.env)).any (·.1) = false := by rfl) :
    DP X c (.Call (.Name x p) (e :: es) [] pos) (gCall F f) := by
  obtain ⟨r, hr, hs⟩ := hc
  obtain ⟨ta, pa, h⟩ := ha
  refine ⟨_, pe_callB hr hg hm hv pa hn hdb he hpl, fun R pn σ ρ H M g0 d e Q q => ?_⟩
  obtain ⟨ds, o, e⟩ := Option.bind_eq_some_iff.mp e
  exact h R pn σ ρ H M g0 ds o _ fun vs H1 k1 t => hs H1 M ds vs d (g0.gro k1).trk t e Q fun w H2 k2 t2 => q w H2 (k1.trans k2) t2
theorem dp_callT {id : String} {F : List D → Option D} {x : Str} {p pos : Pos} {e : Expr} {es : List Expr} {f : Env → Option (List D)} (hc : CallD X c (.type id) F) (hg : Gl X x) (hm : X.mg x = none) (hv : bootBuiltins x = some (.type id)) (ha : DPA X c (e :: es) f)
    (hn : x ≠ "__name__" := by decide) (hdb : (x == ("__debug__" : Str)) = false := by decide) (he : starEach (e :: es) X.env = (false, eval e X.env) :: starEach es X.env := by rfl) (hpl : (backTo pos (starEach es X.env)).any (·.1) = false := by rfl) :
    DP X c (.Call (.Name x p) (e :: es) [] pos) (gCall F f) := by
  obtain ⟨r, hr, hs⟩ := hc
  obtain ⟨ta, pa, h⟩ := ha
  refine ⟨_, pe_callTy hr hg hm hv pa hn hdb he hpl, fun R pn σ ρ H M g0 d e Q q => ?_⟩
  obtain ⟨ds, o, e⟩ := Option.bind_eq_some_iff.mp e
  exact h R pn σ ρ H M g0 ds o _ fun vs H1 k1 t => hs H1 M ds vs d (g0.gro k1).trk t e Q fun w H2 k2 t2 => q w H2 (k1.trans k2) t2
/-- of one thing that is read at once, the answer an int or a bool -/
def D.sc : D → Bool
  | .int _ => true | .bl _ => true | _ => false
theorem tr_sc {K : PySem.W.Frag} {H H' : Hp} {d : D} {v : V} (h : d.sc = true) (r : TR K H d v) : TR K H' d v := by
  cases d <;> rw [TR] at * <;> first | exact r | cases h
def gCall1 (F : List D → Option D) (f : Env → Option D) : Env → Option D := fun ρ => match f ρ with
  | some d => match F [d] with
    | some z => if z.sc then some z else none
    | none => none
  | none => none
theorem dp_call1 {id : String} {F : List D → Option D} {x : Str} {p pos : Pos} {e : Expr} {f : Env → Option D} (hc : CallD X c (.builtin id) F) (hg : Gl X x) (hm : X.mg x = none) (hv : bootBuiltins x = some (.builtin id)) (ha : DU X c e f)
    (hn : x ≠ "__name__" := by decide) (hdb : (x == ("__debug__" : Str)) = false := by decide) (he : starEach (e :: []) X.env = (false, eval e X.env) :: starEach [] X.env := by rfl) (hpl : (backTo pos (starEach [] X.env)).any (·.1) = false := by rfl) :
    DP X c (.Call (.Name x p) [e] [] pos) (gCall1 F f) := by
  obtain ⟨r, hr, hs⟩ := hc
  obtain ⟨ta, pa, h⟩ := ha
  refine ⟨_, pe_callB hr hg hm hv (pa_cons pa pa_nil he) hn hdb he hpl, fun R pn σ ρ H M g0 d e Q q => ?_⟩
  unfold gCall1 at e; split at e
  · rename_i x o
    split at e
    · rename_i z oF
      split at e
      · rename_i hz
        cases e
        exact h R pn σ ρ H M g0 x o _ fun v H1 k1 t => hs H1 (fun _ => False) [x] [v] _ (fun _ z => z.elim) (trs_cons (by rw [mask_false]; exact t) trs_nil) oF Q fun w H2 k2 t2 => q w H2 (k1.trans k2) (tr_sc hz t2)
      · cases e
    · cases e
  · cases e
def F_len : List D → Option D
  | [.str z] => if z.length ≤ sizeLine then some (.int z.length) else none
  | [.lst ds] => some (.int ds.length)
  | [.tup ds] => some (.int ds.length)
  | [.dic ks _] => some (.int ks.length)
  | _ => none
theorem call_lenR : CallR X (.builtin "len") (fun xs H Q => ∃ a kvs, xs = [V.ref a] ∧ Rd H a (.dK kvs) ∧ Q (.int kvs.length) H) := by
  intro pins s σ H xs us Q I r h
  obtain ⟨a, kvs, rfl, ha, q⟩ := h
  obtain ⟨u, rfl, rx⟩ := vals1 r
  cases rx
  exact d_len I ha fun t s' I' => ⟨.int _, H, I', ⟨t, rfl⟩, q⟩
theorem cd_len (hK : c.K = X.K) : CallD X c (.builtin "len") F_len := by
  refine ⟨_, call_len.or call_lenR, fun H M ds vs z tk t e Q q => ?_⟩
  unfold F_len at e
  split at e
  · rename_i s
    split at e
    · rename_i hs
      cases e
      rw [TRs] at t; obtain ⟨v, r, rfl, t1, t2⟩ := t
      rw [TRs] at t2; subst t2
      rw [TR] at t1; subst t1
      exact .inl ⟨_, _, rfl, ⟨hs, rfl⟩, q _ H (Gro.refl H) (by rw [TR])⟩
    · cases e
  · cases e
    rw [TRs] at t; obtain ⟨v, r, rfl, t1, t2⟩ := t
    rw [TRs] at t2; subst t2
    rw [TR] at t1; obtain ⟨a, vs, rfl, sq, ts⟩ := t1
    rw [hK] at sq
    exact .inl ⟨_, _, rfl, .inl ⟨vs, seqL_full sq, rfl⟩, q _ H (Gro.refl H) (by rw [TR, ts.len])⟩
  · cases e
    rw [TRs] at t; obtain ⟨v, r, rfl, t1, t2⟩ := t
    rw [TRs] at t2; subst t2
    rw [TR] at t1; obtain ⟨a, vs, rfl, sq, ts⟩ := t1
    rw [hK] at sq
    exact .inl ⟨_, _, rfl, .inr ⟨vs, seqT_full sq, rfl⟩, q _ H (Gro.refl H) (by rw [TR, ts.len])⟩
  · cases e
    rw [TRs] at t; obtain ⟨v, r, rfl, t1, t2⟩ := t
    rw [TRs] at t2; subst t2
    rw [TR] at t1; obtain ⟨a, vs, rfl, ⟨kvs, rd, hk, _⟩, ts⟩ := t1
    exact .inr ⟨a, kvs, rfl, Rx.full _ _ rd, q _ H (Gro.refl H) (by rw [TR, hk, List.length_map])⟩
  · cases e
def F_int : List D → Option D
  | [.int i] => some (.int i)
  | [.bl k] => some (.int (if k then 1 else 0))
  | [.str a] => if a.length ≤ 640 then (PySem.intText? a).map .int else none
  | _ => none
theorem cd_int : CallD X c (.type "int") F_int := by
  refine ⟨_, call_int1.or call_int_str, fun H M ds vs z tk t e Q q => ?_⟩
  unfold F_int at e
  split at e
  · cases e
    rw [TRs] at t; obtain ⟨v, r, rfl, t1, t2⟩ := t
    rw [TRs] at t2; subst t2
    rw [TR] at t1; subst t1
    exact .inl (.inl ⟨_, rfl, q _ H (Gro.refl H) (by rw [TR])⟩)
  · cases e
    rw [TRs] at t; obtain ⟨v, r, rfl, t1, t2⟩ := t
    rw [TRs] at t2; subst t2
    rw [TR] at t1; subst t1
    exact .inl (.inr ⟨_, rfl, q _ H (Gro.refl H) (by rw [TR])⟩)
  · split at e
    · rename_i hl
      obtain ⟨n, hn, rfl⟩ := Option.map_eq_some_iff.mp e
      rw [TRs] at t; obtain ⟨v, r, rfl, t1, t2⟩ := t
      rw [TRs] at t2; subst t2
      rw [TR] at t1; subst t1
      exact .inr ⟨_, n, rfl, hn, hl, q _ H (Gro.refl H) (by rw [TR])⟩
    · cases e
  · cases e
/-- str(n), str(text) -/
def F_str : List D → Option D
  | [.int i] => if i.natAbs.log2 < 1920 then some (.str (toString i)) else none
  | [.str a] => some (.str a)
  | _ => none
theorem cd_str : CallD X c (.type "str") F_str := by
  refine ⟨_, call_str_int.or SkE.call_str_str, fun H M ds vs z tk t e Q q => ?_⟩
  unfold F_str at e
  split at e
  · split at e
    · rename_i hl
      cases e
      rw [TRs] at t; obtain ⟨v, r, rfl, t1, t2⟩ := t
      rw [TRs] at t2; subst t2
      rw [TR] at t1; subst t1
      exact .inl ⟨_, rfl, hl, q _ H (Gro.refl H) (by rw [TR])⟩
    · cases e
  · cases e
    rw [TRs] at t; obtain ⟨v, r, rfl, t1, t2⟩ := t
    rw [TRs] at t2; subst t2
    rw [TR] at t1; subst t1
    exact .inr ⟨_, rfl, q _ H (Gro.refl H) (by rw [TR])⟩
  · cases e
def F_max2 : List D → Option D
  | [.int i, .int j] => some (.int (if j > i then j else i))
  | _ => none
def F_min2 : List D → Option D
  | [.int i, .int j] => some (.int (if j < i then j else i))
  | _ => none
def F_abs : List D → Option D
  | [.int i] => some (.int (if i < 0 then -i else i))
  | _ => none
theorem cd_max2 (hc : X.calm = true) : CallD X c (.builtin "max") F_max2 := by
  refine ⟨_, call_max2 hc, fun H M ds vs z tk t e Q q => ?_⟩
  unfold F_max2 at e; split at e
  · cases e
    rw [TRs] at t; obtain ⟨v, r, rfl, t1, t2⟩ := t
    rw [TRs] at t2; obtain ⟨v', r', rfl, t3, t4⟩ := t2
    rw [TRs] at t4; subst t4
    rw [TR] at t1 t3; subst t1; subst t3
    exact ⟨_, _, rfl, q _ H (Gro.refl H) (by rw [TR])⟩
  · cases e
theorem cd_min2 (hc : X.calm = true) : CallD X c (.builtin "min") F_min2 := by
  refine ⟨_, call_min2 hc, fun H M ds vs z tk t e Q q => ?_⟩
  unfold F_min2 at e; split at e
  · cases e
    rw [TRs] at t; obtain ⟨v, r, rfl, t1, t2⟩ := t
    rw [TRs] at t2; obtain ⟨v', r', rfl, t3, t4⟩ := t2
    rw [TRs] at t4; subst t4
    rw [TR] at t1 t3; subst t1; subst t3
    exact ⟨_, _, rfl, q _ H (Gro.refl H) (by rw [TR])⟩
  · cases e
theorem cd_abs : CallD X c (.builtin "abs") F_abs := by
  refine ⟨_, call_abs, fun H M ds vs z tk t e Q q => ?_⟩
  unfold F_abs at e; split at e
  · cases e
    rw [TRs] at t; obtain ⟨v, r, rfl, t1, t2⟩ := t
    rw [TRs] at t2; subst t2
    rw [TR] at t1; subst t1
    exact ⟨_, rfl, q _ H (Gro.refl H) (by rw [TR])⟩
  · cases e

/-! ### lists that are read, joined -/
/-- a list that is read: its items are data -/
def DIs (X : Cx) (c : Ctx) (e : Expr) (f : Env → Option (List D)) : Prop := ∃ te : TE, PE X e te ∧ ∀ R pn σ ρ H M, Good c R pn σ ρ H M → ∀ ds, f ρ = some ds → ∀ Q : VK,
  (∀ a H' vs, Gro H H' → SqL X.K H' a vs → TRs c.K (mask H' M) ds vs → Q (.ref a) H') → te σ H Q
def S.itemsL : S → Option (List D)
  | .dat (.lst ds) => some ds
  | .lst xs => S.items (.lst xs)
  | _ => none
theorem DB.is {e : Expr} {f : Env → Option S} (hK : c.K = X.K) (h : DB X c e f) : DIs X c e (fun ρ => (f ρ).bind S.itemsL) := by
  obtain ⟨te, pe, h⟩ := h
  refine ⟨te, pe, fun R pn σ ρ H M g0 ds e Q q => ?_⟩
  obtain ⟨s, o, e⟩ := Option.bind_eq_some_iff.mp e
  refine h R pn σ ρ H M g0 s o Q fun v H' A k r => ?_
  cases s with
  | dat d =>
    cases d with
    | lst xs =>
      cases e
      rw [OR, TR] at r
      obtain ⟨a, vs, rfl, sq, ts⟩ := r
      rw [hK] at sq
      exact q a H' vs k (seqL_full sq) ts
    | _ => cases e
  | lst xs =>
    rw [OR] at r
    obtain ⟨a, vs, B, rfl, ha, _, _, _, ro⟩ := r
    exact q a H' vs k (.inl (.inl ha)) (ors_items ro e)
  | _ => cases e
theorem DLs.is {e : Expr} {f : Env → Option (List D)} (h : DLs X c e f) : DIs X c e f := by
  obtain ⟨te, pe, h⟩ := h
  exact ⟨te, pe, fun R pn σ ρ H M g0 ds e Q q => h R pn σ ρ H M g0 ds e Q fun p H' vs hp k hl t => q p H' vs k (.inl (.inl hl)) (t.mono (Rx.unmask fun a h => .inl h) _ _)⟩
def gL2 (f g : Env → Option (List D)) : Env → Option (List D) := fun ρ => match f ρ, g ρ with
  | some a, some b => if a.length + b.length ≤ sizeLine then some (a ++ b) else none
  | _, _ => none
theorem op_catS {X : Cx} : OpR X (binaryOp .Add) (fun x y H Q => ∃ l b xs zs, x = .ref l ∧ y = .ref b ∧ SqL X.K H l xs ∧ SqL X.K H b zs ∧ xs.length + zs.length ≤ sizeLine ∧ ∀ p, H p = none → Q (.ref p) (upd H p (.lst (xs ++ zs)))) := by
  intro pins s σ H x y v u Q I rx ry h
  obtain ⟨l, b, xs, zs, rfl, rfl, hH, hB, hz, q⟩ := h
  cases rx
  cases ry
  obtain ⟨its, r, ⟨o, n, e1, e2, e3, e4⟩, _⟩ := I.list hH
  obtain ⟨its2, r2, ⟨o2, n2, f1, f2, f3, f4⟩, _⟩ := I.list hB
  obtain ⟨cls, dd, data, sl⟩ := o
  obtain ⟨cls2, dd2, data2, sl2⟩ := o2
  simp only at e2 e3 e4 f2 f3 f4
  subst e2 e3 e4 f2 f3 f4
  have ea : its.toArray ++ its2.toArray = (its ++ its2).toArray := by simp
  have h1 := r.length
  have h2 := r2.length
  refine concat_meets ⟨_, e1, rfl⟩ ⟨_, f1, rfl⟩ noFill_list_add seq_list_add PySem.F.slot_list_add PySem.F.entry_list_add (PySem.F.args_list_add_2 _ _) (list_addW l b its.toArray its2.toArray n n2 none none sl sl2 (by simp; omega)) ⟨e1, f1, ?_⟩
  rw [ea]
  exact ⟨.ref _, _, I.lnew (t' := s.toks) (r.append r2) (by rw [List.length_append]; omega), rfl, q _ I.fresh⟩
theorem dl_cat {e1 e2 : Expr} {f g : Env → Option (List D)} {pos : Pos} (h1 : DIs X c e1 f) (h2 : DIs X c e2 g) : DLs X c (.BinOp e1 .Add e2 pos) (gL2 f g) := by
  obtain ⟨ta, pa, h1⟩ := h1
  obtain ⟨tb, pb, h2⟩ := h2
  refine ⟨_, pe_op op_catS pa pb, fun R pn σ ρ H M g0 ds e Q q => ?_⟩
  unfold gL2 at e; split at e
  · rename_i a b o1 o2
    split at e
    · rename_i hl
      cases e
      refine h1 R pn σ ρ H M g0 a o1 _ fun l H1 xs k1 s1 t1 => h2 R pn σ ρ H1 M (g0.gro k1) b o2 _ fun m H2 ys k2 s2 t2 => ?_
      refine ⟨l, m, xs, ys, rfl, rfl, seqL_mono k2.rx s1, s2, by rw [← t1.len, ← t2.len]; exact hl, fun p hp => ?_⟩
      exact q p _ _ (none_of_gro (k1.trans k2) hp) ((k1.trans k2).trans (Gro.new hp)) upd_same (((t1.mono k2.mask.rx _ _).append t2).mono (mask_newM hp) _ _)
    · cases e
  · cases e
def gLcut (f : Env → Option (List D)) (l h : Env → Option (Option Int)) : Env → Option (List D) := fun ρ => match f ρ, l ρ, h ρ with
  | some ds, some lo, some hi => some (cutD ds lo hi)
  | _, _, _ => none
theorem dl_cut {e : Expr} {lo hi : Option Expr} {f : Env → Option (List D)} {l h : Env → Option (Option Int)} {p2 pos : Pos} (h1 : DIs X c e f) (h2 : DO X c lo l) (h3 : DO X c hi h) : DLs X c (.Subscript e (.Slice lo hi none p2) pos) (gLcut f l h) := by
  obtain ⟨te, pe, h1⟩ := h1
  obtain ⟨tl, pl, h2⟩ := h2
  obtain ⟨th, ph, h3⟩ := h3
  refine ⟨_, pe_slice sl_list pe pl ph, fun R pn σ ρ H M g0 d e Q q => ?_⟩
  unfold gLcut at e; split at e
  · rename_i x lo hi o1 o2 o3
    cases e
    refine h1 R pn σ ρ H M g0 x o1 _ fun a H1 vs k1 sq t1 => h2 R pn σ ρ H1 M (g0.gro k1) lo o2 _ fun H2 k2 => h3 R pn σ ρ H2 M ((g0.gro k1).gro k2) hi o3 _ fun H3 k3 => ?_
    have kk := (k1.trans k2).trans k3
    exact ⟨a, vs, rfl, seqL_mono (k2.trans k3).rx sq, fun p hp => q p _ _ (none_of_gro kk hp) (kk.trans (Gro.new hp)) upd_same (((t1.mono (k2.trans k3).mask.rx _ _).cut lo hi).mono (mask_newM hp) _ _)⟩
  · cases e

/-! ### methods of texts -/
def gM1 (F : Str → Str → Option D) (f g : Env → Option D) : Env → Option D := gBin (fun a b => match a, b with
  | .str x, .str y => F x y
  | _, _ => none) f g
def gSplit (f g : Env → Option D) : Env → Option (List D) := fun ρ => match f ρ, g ρ with
  | some (.str a), some (.str b) => if (b.length == 0) = false ∧ a.length + 2 ≤ sizeLine then some ((Txt.split a b).map .str) else none
  | _, _ => none
theorem trs_strs {K : PySem.W.Frag} {H : Hp} : ∀ ys : List Str, TRs K H (ys.map .str) (ys.map V.str)
  | [] => trs_nil
  | y :: ys => trs_cons (by rw [TR]) (trs_strs ys)
theorem dl_split {e1 e2 : Expr} {f g : Env → Option D} {apos pos : Pos} (h1 : DP X c e1 f) (h2 : DP X c e2 g) (hs : starEach [e2] X.env = [(false, eval e2 X.env)] := by rfl) (hbase : attributeBase e1 "split" X.env (eval e1 X.env) = eval e1 X.env := by rfl) (hline : (apos.endLine == pos.line) = true := by rfl) :
    DLs X c (.Call (.Attribute e1 "split" apos) [e2] [] pos) (gSplit f g) := by
  obtain ⟨ta, pa, h1⟩ := h1
  obtain ⟨tb, pb, h2⟩ := h2
  refine ⟨_, pe_split pa pb hs hbase hline, fun R pn σ ρ H M g0 ds e Q q => ?_⟩
  unfold gSplit at e; split at e
  · rename_i a b o1 o2
    split at e
    · rename_i hh
      cases e
      refine h1 R pn σ ρ H M g0 _ o1 _ fun v H1 k1 t1 => ?_
      rw [TR] at t1
      refine ⟨⟨a, t1⟩, h2 R pn σ ρ H1 M (g0.gro k1) _ o2 _ fun u H2 k2 t2 => ?_⟩
      rw [TR] at t2
      exact ⟨a, b, t1, by rw [t2], hh.1, hh.2, fun p hp => q p _ _ (none_of_gro (k1.trans k2) hp) ((k1.trans k2).trans (Gro.new hp)) upd_same (trs_strs _)⟩
    · cases e
  · cases e
def gPartition (f g : Env → Option D) : Env → Option D := fun ρ => match f ρ, g ρ with
  | some (.str a), some (.str b) => if (b.length == 0) = false ∧ a.length ≤ sizeLine then some (.tup [.str (Txt.partition a b).1, .str (Txt.partition a b).2.1, .str (Txt.partition a b).2.2]) else none
  | _, _ => none
theorem dp_partition {e1 e2 : Expr} {f g : Env → Option D} {apos pos : Pos} (h1 : DP X c e1 f) (h2 : DP X c e2 g) (hs : starEach [e2] X.env = [(false, eval e2 X.env)] := by rfl) (hbase : attributeBase e1 "partition" X.env (eval e1 X.env) = eval e1 X.env := by rfl) (hline : (apos.endLine == pos.line) = true := by rfl) :
    DP X c (.Call (.Attribute e1 "partition" apos) [e2] [] pos) (gPartition f g) := by
  obtain ⟨ta, pa, h1⟩ := h1
  obtain ⟨tb, pb, h2⟩ := h2
  refine ⟨_, pe_partition pa pb hs hbase hline, fun R pn σ ρ H M g0 ds e Q q => ?_⟩
  unfold gPartition at e; split at e
  · rename_i a b o1 o2
    split at e
    · rename_i hh
      cases e
      refine h1 R pn σ ρ H M g0 _ o1 _ fun v H1 k1 t1 => ?_
      rw [TR] at t1
      refine ⟨⟨a, t1⟩, h2 R pn σ ρ H1 M (g0.gro k1) _ o2 _ fun u H2 k2 t2 => ?_⟩
      rw [TR] at t2
      exact ⟨a, b, t1, by rw [t2], hh.1, hh.2, fun p hp => q _ _ ((k1.trans k2).trans (Gro.new hp)) (tr_tup_new hp (((g0.gro k1).gro k2).fresh hp) (trs_cons (by rw [TR]) (trs_cons (by rw [TR]) (trs_cons (by rw [TR]) trs_nil))))⟩
    · cases e
  · cases e
def D.strs : List D → Option (List Str)
  | [] => some []
  | .str x :: ds => (D.strs ds).map (x :: ·)
  | _ => none
theorem strs_map {K : PySem.W.Frag} {H : Hp} : ∀ {ds : List D} {vs : List V} {ys : List Str}, TRs K H ds vs → D.strs ds = some ys → vs = ys.map V.str
  | [], vs, ys, t, e => by rw [TRs] at t; subst t; cases e; rfl
  | d :: ds, vs, ys, t, e => by
    rw [TRs] at t; obtain ⟨v, r, rfl, t1, t2⟩ := t
    cases d with
    | str x =>
      obtain ⟨zs, h, rfl⟩ := Option.map_eq_some_iff.mp (show (D.strs ds).map (x :: ·) = some ys from e)
      rw [TR] at t1; subst t1
      rw [strs_map t2 h]; rfl
    | _ => cases e
def gJoin (f : Env → Option D) (g : Env → Option (List D)) : Env → Option D := fun ρ => match f ρ, g ρ with
  | some (.str a), some ds => match D.strs ds with
    | some ys => if (ys.map (·.length)).sum + ys.length * a.length ≤ 16777216 then some (.str (Txt.join a ys)) else none
    | none => none
  | _, _ => none
theorem dp_join {e1 e2 : Expr} {f : Env → Option D} {g : Env → Option (List D)} {apos pos : Pos} (h1 : DP X c e1 f) (h2 : DIs X c e2 g) (hs : starEach [e2] X.env = [(false, eval e2 X.env)] := by rfl) (hbase : attributeBase e1 "join" X.env (eval e1 X.env) = eval e1 X.env := by rfl) (hline : (apos.endLine == pos.line) = true := by rfl) :
    DP X c (.Call (.Attribute e1 "join" apos) [e2] [] pos) (gJoin f g) := by
  obtain ⟨ta, pa, h1⟩ := h1
  obtain ⟨tb, pb, h2⟩ := h2
  refine ⟨_, pe_join pa pb hs hbase hline, fun R pn σ ρ H M g0 ds e Q q => ?_⟩
  unfold gJoin at e; split at e
  · rename_i a ds' o1 o2
    split at e
    · rename_i ys o3
      split at e
      · rename_i hh
        cases e
        refine h1 R pn σ ρ H M g0 _ o1 _ fun v H1 k1 t1 => ?_
        rw [TR] at t1
        refine ⟨⟨a, t1⟩, h2 R pn σ ρ H1 M (g0.gro k1) _ o2 _ fun p H2 vs k2 s2 t2 => ?_⟩
        exact ⟨a, p, ys, t1, rfl, .inl (by rw [← strs_map t2 o3]; exact s2), hh, q _ H2 (k1.trans k2) (by rw [TR])⟩
      · cases e
    · cases e
  · cases e
end
end DL

/-! DL5: targets, what a loop walks, comprehensions that change nothing. -/
namespace DL
open PySem L2 PyProof.Rows
open Classical

/-! ### targets -/
/-- σ' is σ but at some places -/
def Bar (is : List Nat) (σ σ' : L2.St) : Prop := σ'.length = σ.length ∧ ∀ j, j ∉ is → σ'[j]? = σ[j]?
theorem Bar.refl {σ : L2.St} : Bar [] σ σ := ⟨rfl, fun _ _ => rfl⟩
theorem Bar.trans {i1 i2 : List Nat} {σ σ1 σ2 : L2.St} (a : Bar i1 σ σ1) (b : Bar i2 σ1 σ2) : Bar (i1 ++ i2) σ σ2 :=
  ⟨b.1.trans a.1, fun j h => by
    rw [List.mem_append, not_or] at h
    rw [b.2 j h.2, a.2 j h.1]⟩
def rdG (c : Ctx) (is : List Nat) (F : D → Env → Option Env) : TG := fun v σ H Q => ∃ (R M : AS) (ρ ρ' : Env) (d : D), Good c R [] σ ρ H M ∧ TR c.K (mask H M) d v ∧ F d ρ = some ρ' ∧ ∀ σ', Bar is σ σ' → Good c R [] σ' ρ' H M → Q σ' H
def rdGs (c : Ctx) (is : List Nat) (F : List D → Env → Option Env) : TGs := fun vs σ H Q => ∃ (R M : AS) (ρ ρ' : Env) (ds : List D), Good c R [] σ ρ H M ∧ TRs c.K (mask H M) ds vs ∧ F ds ρ = some ρ' ∧ ∀ σ', Bar is σ σ' → Good c R [] σ' ρ' H M → Q σ' H
def DG (X : Cx) (c : Ctx) (tg : Expr) (is : List Nat) (F : D → Env → Option Env) : Prop := PG X tg (rdG c is F)
def DGs (X : Cx) (c : Ctx) (ts : List Expr) (is : List Nat) (F : List D → Env → Option Env) : Prop := PGs X ts (rdGs c is F)
theorem PG.imp {X : Cx} {tg : Expr} {t t' : TG} (h : PG X tg t) (k : ∀ v σ H Q, t' v σ H Q → t v σ H Q) : PG X tg t' := ⟨fun pins s σ H v u Q I r q => h.run pins s σ H v u Q I r (k _ _ _ _ q)⟩
theorem PGs.imp {X : Cx} {tg : List Expr} {t t' : TGs} (h : PGs X tg t) (k : ∀ v σ H Q, t' v σ H Q → t v σ H Q) : PGs X tg t' := ⟨fun pins s σ H v u Q I r q => h.run pins s σ H v u Q I r (k _ _ _ _ q)⟩
theorem Good.pins {c : Ctx} {R : AS} {pn pn' : List (Nat × V)} {σ : L2.St} {ρ : Env} {H : Hp} {M : AS} (g : Good c R pn σ ρ H M) (h : ∀ p ∈ pn', σ[p.1]? = some (some p.2)) : Good c R pn' σ ρ H M := ⟨g.len, g.own, g.sub, g.trk, h⟩
theorem Good.nop {c : Ctx} {R : AS} {pn : List (Nat × V)} {σ : L2.St} {ρ : Env} {H : Hp} {M : AS} (g : Good c R pn σ ρ H M) : Good c R [] σ ρ H M := g.pins fun _ h => nomatch h
section
variable {X : Cx} {c : Ctx} {W : WX} {R : AS} {pn : List (Nat × V)} {σ : L2.St} {ρ : Env} {H H1 : Hp} {M M1 : AS} {pos : Pos}
theorem Good.setD {i : Nat} {d : D} {v : V} (g : Good c R pn σ ρ H M) (hi : i < σ.length) (t : TR c.K (mask H M) d v) (hp : ∀ p ∈ pn, p.1 ≠ i) : Good c R pn (σ.set i (some v)) (ρ.set i (some (.dat d))) H M :=
  Good.fill (A := fun _ => False) ((g.forget i).anti fun a h => h.elim id False.elim) hi (or_dat t) (fun _ z => z.elim) fun p hp' e => absurd e (hp p hp')
def hName (i : Nat) : D → Env → Option Env := fun d ρ => if i < ρ.length then some (ρ.set i (some (.dat d))) else none
theorem dg_name {i : Nat} {x : Str} (h : PG X (.Name x pos) (gName i)) : DG X c (.Name x pos) [i] (hName i) := by
  refine PG.imp h fun v σ H Q ⟨R, M, ρ, ρ', d, g, t, e, q⟩ => ?_
  unfold hName at e; split at e
  · rename_i hi
    cases e
    refine q _ ⟨by simp, fun j hj => by rw [List.getElem?_set_ne (fun z => hj (by simp [z]))]⟩ (g.setD (by rw [← g.len]; exact hi) t fun p hp => nomatch hp)
  · cases e
def hNil : List D → Env → Option Env
  | [], ρ => some ρ
  | _, _ => none
def hCons (F : D → Env → Option Env) (G : List D → Env → Option Env) : List D → Env → Option Env
  | d :: ds, ρ => (F d ρ).bind fun ρ => G ds ρ
  | [], _ => none
theorem dgs_nil : DGs X c [] [] hNil := by
  refine PGs.imp pgs_nil fun vs σ H Q ⟨R, M, ρ, ρ', ds, g, t, e, q⟩ => ?_
  cases ds with
  | nil => cases e; rw [TRs] at t; exact ⟨t, q σ Bar.refl g⟩
  | cons _ _ => cases e
theorem dgs_cons {e : Expr} {es : List Expr} {i1 i2 : List Nat} {F : D → Env → Option Env} {G : List D → Env → Option Env} (h1 : DG X c e i1 F) (h2 : DGs X c es i2 G)
    (hs : (assignEach (e :: es) X.env).map (·.2) = assign e X.env :: (assignEach es X.env).map (·.2) := by rfl) : DGs X c (e :: es) (i1 ++ i2) (hCons F G) := by
  refine PGs.imp (pgs_cons h1 h2 hs) fun vs σ H Q ⟨R, M, ρ, ρ', ds, g, t, e, q⟩ => ?_
  cases ds with
  | nil => cases e
  | cons d ds =>
    obtain ⟨ρ1, e1, e2⟩ := Option.bind_eq_some_iff.mp e
    rw [TRs] at t; obtain ⟨v, r, rfl, t1, t2⟩ := t
    exact ⟨v, r, rfl, R, M, ρ, ρ1, d, g, t1, e1, fun σ1 b1 g1 => ⟨R, M, ρ1, ρ', ds, g1, t2, e2, fun σ2 b2 g2 => q σ2 (b1.trans b2) g2⟩⟩
def hTup (n : Nat) (F : List D → Env → Option Env) : D → Env → Option Env := fun d ρ => match d with
  | .tup ds => if ds.length = n then F ds ρ else none
  | _ => none
theorem dg_tup {es : List Expr} {k n : Nat} {is : List Nat} {F : List D → Env → Option Env} (hK : c.K = X.K) (hc : X.calm = true) (h : DGs X c es is F) (hn : (assignEach es X.env).length = n := by rfl) (hst : (assignEach es X.env).findIdx? (·.1) = none := by rfl) : DG X c (.Tuple es k pos) is (hTup n F) := by
  refine PG.imp (pg_tup hc h hn hst) fun v σ H Q ⟨R, M, ρ, ρ', d, g, t, e, q⟩ => ?_
  cases d with
  | tup ds =>
    have e' : (if ds.length = n then F ds ρ else none) = some ρ' := e
    by_cases hl : ds.length = n
    · rw [if_pos hl] at e'
      rw [TR] at t; obtain ⟨a, vs, rfl, sq, ts⟩ := t
      rw [hK] at sq
      exact ⟨a, vs, rfl, seqT_full sq, by rw [← ts.len]; exact hl, R, M, ρ, ρ', ds, g, ts, e', q⟩
    · rw [if_neg hl] at e'; cases e'
  | _ => cases e

/-! ### walks -/
/-- J yields ds, one by one, while Iv holds of the heap and what is masked -/
def Goes (c : Ctx) (Iv : Hp → AS → Prop) (J : It) (ds : List D) : Prop := ∀ H M, Iv H M → (∀ a, M a → H a ≠ none) → ∀ i : Nat, (∀ d, ds[i]? = some d → J.go i H ∧ ∀ x H', J.yld i H x H' → Gro H H' ∧ TR c.K (mask H' M) d x) ∧ (ds[i]? = none → J.stop i H)
theorem Goes.imp {Iv Iv' : Hp → AS → Prop} {J : It} {ds : List D} (h : Goes c Iv J ds) (k : ∀ H M, Iv' H M → Iv H M) : Goes c Iv' J ds := fun H M i => h H M (k H M i)
/-- what is walked while nothing changes; data, walked whatever happens -/
def DIp (X : Cx) (c : Ctx) (tg e : Expr) (f : Env → Option (List D)) : Prop := ∃ wi : TI, PI X tg e wi ∧ ∀ R pn σ ρ H M, Good c R pn σ ρ H M → ∀ ds, f ρ = some ds → ∀ Q : It → Hp → Prop,
  (∀ J H', Gro H H' → Goes c (fun H2 M2 => Gro H' H2 ∧ Gro (mask H' M) (mask H2 M2)) J ds → Q J H') → wi σ H Q
def DId (X : Cx) (c : Ctx) (tg e : Expr) (f : Env → Option (List D)) : Prop := ∃ wi : TI, PI X tg e wi ∧ ∀ R pn σ ρ H M, Good c R pn σ ρ H M → ∀ ds, f ρ = some ds → ∀ Q : It → Hp → Prop,
  (∀ J H', Gro H H' → Goes c (fun H2 M2 => Gro (mask H' M) (mask H2 M2)) J ds → Q J H') → wi σ H Q
theorem DId.ip {tg e : Expr} {f : Env → Option (List D)} (h : DId X c tg e f) : DIp X c tg e f := by
  obtain ⟨wi, pi, h⟩ := h
  exact ⟨wi, pi, fun R pn σ ρ H M g ds e Q q => h R pn σ ρ H M g ds e Q fun J H' k go => q J H' k (go.imp fun _ _ h => h.2)⟩
def iSeq (K : PySem.W.Frag) (tl : TE) : TI := fun σ H R => tl σ H fun x H1 => (∃ a, x = .ref a ∧ (∃ xs, SqL K H1 a xs) ∧ R (Itl K a) H1) ∨ (∃ a, x = .ref a ∧ (∃ xs, SqT K H1 a xs) ∧ R (Itt K a) H1) ∨ ∃ z, x = .str z ∧ R (Its z) H1
theorem pi_seq {tg l : Expr} {tl : TE} (hl : PE X l tl) : PI X tg l (iSeq X.K tl) := by
  refine ⟨fun pins s σ H R I h => ?_⟩
  refine thn (hl.run pins s σ H _ I h) fun v s1 ⟨x, H1, I1, r1, q1⟩ => ?_
  rcases q1 with ⟨a, e, ⟨xs, hq⟩, q⟩ | ⟨a, e, ⟨xs, hq⟩, q⟩ | ⟨z, e, q⟩
  · subst e
    cases r1
    obtain ⟨its, rv, p, hz⟩ := I1.list hq
    refine wpAny_pyIter_list p.isList ?_
    refine ⟨s1.heap.objs.size, [s1.heap.objs.size], _, _, H1, rfl, I1.kept (t' := s1.toks) fun b o e => Heap.get?_push_of_some _ e, turn_list a _, ⟨_, Heap.get?_push_size _ rfl, rfl, rfl⟩, fun b hb => ?_, q⟩
    have e : b = s1.heap.objs.size := by simpa using hb
    subst e
    exact I1.fpOk (Nat.le_refl _) (I1.hok.fresh (Nat.le_refl _))
  · subst e
    cases r1
    obtain ⟨its, rv, p, hz⟩ := I1.tuple hq
    refine wpAny_pyIter_tuple (show s1.heap.IsTuple a its.toArray from p) ?_
    refine ⟨s1.heap.objs.size, [s1.heap.objs.size], _, _, H1, rfl, I1.kept (t' := s1.toks) fun b o e => Heap.get?_push_of_some _ e, turn_tuple a _, ⟨_, Heap.get?_push_size _ rfl, rfl, rfl⟩, fun b hb => ?_, q⟩
    have e : b = s1.heap.objs.size := by simpa using hb
    subst e
    exact I1.fpOk (Nat.le_refl _) (I1.hok.fresh (Nat.le_refl _))
  · subst e
    obtain ⟨t, rfl⟩ := r1
    cases ha : z.cps.all (· < 128)
    · exact wpAny_pyIter_wide ha (pi_one (tk := s1.toks) I1 _ (turn_str _ z t "str_iterator" (.inr rfl)) ⟨_, Heap.get?_push_size _ rfl, rfl, rfl⟩ q)
    · exact wpAny_pyIter_ascii ha (pi_one (tk := s1.toks) I1 _ (turn_str _ z t "str_ascii_iterator" (.inl rfl)) ⟨_, Heap.get?_push_size _ rfl, rfl, rfl⟩ q)
def signsD (z : Str) : List D := z.cps.toList.map fun n => .str ⟨#[n]⟩
theorem goes_list {Iv : Hp → AS → Prop} {a : Addr} {ds : List D} {vs : List V} {K : PySem.W.Frag} (h : ∀ H M, Iv H M → SqL K H a vs ∧ TRs c.K (mask H M) ds vs) : Goes c Iv (Itl K a) ds := fun H M iv tk i => by
  obtain ⟨sq, t⟩ := h H M iv
  refine ⟨fun d hd => ?_, fun hn => ⟨vs, sq, by rw [← t.len]; exact List.getElem?_eq_none_iff.mp hn⟩⟩
  obtain ⟨v, hv, tv⟩ := t.get hd
  refine ⟨⟨vs, v, sq, hv⟩, fun x H' y => ?_⟩
  obtain ⟨e, y⟩ := y
  subst e
  have e2 := y vs sq
  rw [hv] at e2; cases e2
  exact ⟨Gro.refl _, tv⟩
theorem goes_tup {Iv : Hp → AS → Prop} {a : Addr} {ds : List D} {vs : List V} {K : PySem.W.Frag} (h : ∀ H M, Iv H M → SqT K H a vs ∧ TRs c.K (mask H M) ds vs) : Goes c Iv (Itt K a) ds := fun H M iv tk i => by
  obtain ⟨sq, t⟩ := h H M iv
  refine ⟨fun d hd => ?_, fun hn => ⟨vs, sq, by rw [← t.len]; exact List.getElem?_eq_none_iff.mp hn⟩⟩
  obtain ⟨v, hv, tv⟩ := t.get hd
  refine ⟨⟨vs, v, sq, hv⟩, fun x H' y => ?_⟩
  obtain ⟨e, y⟩ := y
  subst e
  have e2 := y vs sq
  rw [hv] at e2; cases e2
  exact ⟨Gro.refl _, tv⟩
theorem goes_str {Iv : Hp → AS → Prop} {z : Str} : Goes c Iv (Its z) (signsD z) := fun H M iv tk i => by
  unfold signsD
  refine ⟨fun d hd => ?_, fun hn => ?_⟩
  · rw [List.getElem?_map] at hd
    obtain ⟨n, hn, rfl⟩ := Option.map_eq_some_iff.mp hd
    have hn' : z.cps[i]? = some n := by rw [← Array.getElem?_toList]; exact hn
    refine ⟨(Array.getElem?_eq_some_iff.mp hn').1, fun x H' y => ?_⟩
    obtain ⟨e, k, hk, rfl⟩ := y
    subst e
    rw [hn'] at hk; cases hk
    exact ⟨Gro.refl _, by rw [TR]⟩
  · have := List.getElem?_eq_none_iff.mp hn
    show z.cps.size ≤ i
    simpa using this
/-- a list, tuple or text that is read, walked -/
def S.walk : S → Option (List D)
  | .dat (.str z) => some (signsD z)
  | s => s.items
theorem dip_seq {tg e : Expr} {f : Env → Option S} (hK : c.K = X.K) (h : DB X c e f) : DIp X c tg e (fun ρ => (f ρ).bind S.walk) := by
  obtain ⟨te, pe, h⟩ := h
  refine ⟨_, pi_seq pe, fun R pn σ ρ H M g ds e Q q => ?_⟩
  obtain ⟨s, o, e⟩ := Option.bind_eq_some_iff.mp e
  refine h R pn σ ρ H M g s o _ fun v H' A k r => ?_
  by_cases hs : ∃ z, s = .dat (.str z)
  · obtain ⟨z, rfl⟩ := hs
    cases e
    rw [OR, TR] at r
    exact Or.inr (Or.inr ⟨z, r, q _ H' k goes_str⟩)
  · have e' : s.items = some ds := by
      cases s with
      | dat d =>
        cases d with
        | str z => exact (hs ⟨z, rfl⟩).elim
        | _ => exact e
      | _ => exact e
    obtain ⟨a, vs, rfl, sq, t⟩ := items_read hK r e'
    rcases sq with sq | sq
    · exact Or.inl ⟨a, rfl, ⟨vs, sq⟩, q _ H' k (goes_list fun H2 M2 iv => ⟨seqL_mono iv.1.rx sq, t.mono iv.2.rx _ _⟩)⟩
    · exact Or.inr (Or.inl ⟨a, rfl, ⟨vs, sq⟩, q _ H' k (goes_tup fun H2 M2 iv => ⟨seqT_mono iv.1.rx sq, t.mono iv.2.rx _ _⟩)⟩)
def D.walk : D → Option (List D)
  | .str z => some (signsD z)
  | .lst ds => some ds
  | .tup ds => some ds
  | _ => none
def gWalk (f : Env → Option D) : Env → Option (List D) := fun ρ => (f ρ).bind D.walk
theorem did_seq {tg e : Expr} {f : Env → Option D} (hK : c.K = X.K) (h : DP X c e f) : DId X c tg e (gWalk f) := by
  obtain ⟨te, pe, h⟩ := h
  refine ⟨_, pi_seq pe, fun R pn σ ρ H M g ds e Q q => ?_⟩
  obtain ⟨s, o, e⟩ := Option.bind_eq_some_iff.mp e
  refine h R pn σ ρ H M g s o _ fun v H' k r => ?_
  cases s with
  | str z =>
    cases e
    rw [TR] at r
    exact Or.inr (Or.inr ⟨z, r, q _ H' k goes_str⟩)
  | lst xs =>
    cases e
    rw [TR] at r
    obtain ⟨a, vs, rfl, sq, t⟩ := r
    rw [hK] at sq
    exact Or.inl ⟨a, rfl, ⟨vs, seqL_full sq⟩, q _ H' k (goes_list fun H2 M2 iv => ⟨seqL_full (seqL_mono iv.rx sq), t.mono iv.rx _ _⟩)⟩
  | tup xs =>
    cases e
    rw [TR] at r
    obtain ⟨a, vs, rfl, sq, t⟩ := r
    rw [hK] at sq
    exact Or.inr (Or.inl ⟨a, rfl, ⟨vs, seqT_full sq⟩, q _ H' k (goes_tup fun H2 M2 iv => ⟨seqT_full (seqT_mono iv.rx sq), t.mono iv.rx _ _⟩)⟩)
  | _ => cases e
def rangeD (lo : Int) (n : Nat) : List D := (List.range n).map fun i => .int (lo + (i : Nat))
theorem goes_range {Iv : Hp → AS → Prop} {lo : Int} {n : Nat} : Goes c Iv (Itr lo n) (rangeD lo n) := fun H M iv tk i => by
  unfold rangeD
  refine ⟨fun d hd => ?_, fun hn => ?_⟩
  · rw [List.getElem?_map] at hd
    obtain ⟨k, hk, rfl⟩ := Option.map_eq_some_iff.mp hd
    obtain ⟨h1, h2⟩ := List.getElem?_eq_some_iff.mp hk
    rw [List.getElem_range] at h2; subst h2
    rw [List.length_range] at h1
    refine ⟨h1, fun x H' y => ?_⟩
    obtain ⟨e, rfl⟩ := y
    subst e
    exact ⟨Gro.refl _, by rw [TR]⟩
  · have := List.getElem?_eq_none_iff.mp hn
    rw [List.length_map, List.length_range] at this
    exact this
def gRange1 (f : Env → Option D) : Env → Option (List D) := fun ρ => match f ρ with
  | some (.int j) => if -(2 ^ 62) ≤ j ∧ j < 2 ^ 62 then some (rangeD 0 j.toNat) else none
  | _ => none
def gRange2 (f g : Env → Option D) : Env → Option (List D) := fun ρ => match f ρ, g ρ with
  | some (.int i), some (.int j) => if -(2 ^ 62) ≤ i ∧ i < 2 ^ 62 ∧ -(2 ^ 62) ≤ j ∧ j < 2 ^ 62 then some (rangeD i (j - i).toNat) else none
  | _, _ => none
theorem did_range1 {tg a : Expr} {f : Env → Option D} {p : Pos} (hg : Gl X "range") (hm : X.mg "range" = none) (h : DP X c a f) (hs : starEach [a] X.env = [(false, eval a X.env)] := by rfl) : DId X c tg (.Call (.Name "range" p) [a] [] pos) (gRange1 f) := by
  obtain ⟨ta, pa, h⟩ := h
  refine ⟨_, pi_range1 hg hm (pa_cons pa pa_nil hs) hs, fun R pn σ ρ H M g ds e Q q => ?_⟩
  unfold gRange1 at e; split at e
  · rename_i j o
    split at e
    · rename_i hj
      cases e
      refine h R pn σ ρ H M g _ o _ fun v H1 k t1 => ?_
      rw [TR] at t1; subst t1
      exact ⟨j, rfl, hj.1, hj.2, q _ H1 k goes_range⟩
    · cases e
  · cases e
theorem did_range2 {tg a b : Expr} {f g : Env → Option D} {p : Pos} (hg : Gl X "range") (hm : X.mg "range" = none) (h1 : DP X c a f) (h2 : DP X c b g) (hs : starEach [a, b] X.env = [(false, eval a X.env), (false, eval b X.env)] := by rfl) (hs2 : starEach [b] X.env = [(false, eval b X.env)] := by rfl)
    (hs3 : starEach (a :: [b]) X.env = (false, eval a X.env) :: starEach [b] X.env := by rfl) : DId X c tg (.Call (.Name "range" p) [a, b] [] pos) (gRange2 f g) := by
  obtain ⟨ta, pa, h1⟩ := h1
  obtain ⟨tb, pb, h2⟩ := h2
  refine ⟨_, pi_range2 hg hm (pa_cons pa (pa_cons pb pa_nil hs2) hs3) hs hs2, fun R pn σ ρ H M g0 ds e Q q => ?_⟩
  unfold gRange2 at e; split at e
  · rename_i i j o1 o2
    split at e
    · rename_i hj
      cases e
      refine h1 R pn σ ρ H M g0 _ o1 _ fun v H1 k1 t1 => h2 R pn σ ρ H1 M (g0.gro k1) _ o2 _ fun u H2 k2 t2 => ?_
      rw [TR] at t1 t2; subst t1; subst t2
      exact ⟨i, j, rfl, hj, q _ H2 (k1.trans k2) goes_range⟩
    · cases e
  · cases e

/-! ### comprehensions that change nothing -/
def wipeE (ρ : Env) : List Nat → Env
  | [] => ρ
  | v :: vs => (wipeE ρ vs).set v none
theorem wipeE_some {i : Nat} {s : S} : ∀ {vs : List Nat}, (wipeE ρ vs)[i]? = some (some s) → ρ[i]? = some (some s) ∧ (wipe σ vs)[i]? = σ[i]?
  | [], h => ⟨h, rfl⟩
  | v :: vs, h => by
    obtain ⟨ne, h'⟩ := set_none h
    obtain ⟨h1, h2⟩ := wipeE_some (vs := vs) h'
    refine ⟨h1, ?_⟩
    show ((wipe σ vs).set v none)[i]? = σ[i]?
    rw [List.getElem?_set_ne (fun z => ne z.symm)]; exact h2
theorem wipeE_len : ∀ {vs : List Nat}, (wipeE ρ vs).length = ρ.length
  | [] => rfl
  | v :: vs => by unfold wipeE; rw [List.length_set]; exact wipeE_len
theorem Good.wipe (g : Good c R pn σ ρ H M) (vs : List Nat) : Good c R [] (L2.wipe σ vs) (wipeE ρ vs) H M := by
  obtain ⟨fp, o, dj, m⟩ := g.own
  refine ⟨by rw [wipeE_len, wipe_length]; exact g.len, ⟨fp, fun i s e => ?_, dj, m⟩, g.sub, g.trk, fun p h => nomatch h⟩
  obtain ⟨h1, h2⟩ := wipeE_some (σ := σ) e
  obtain ⟨v, e1, e2⟩ := o i s h1
  exact ⟨v, h2.trans e1, e2⟩
theorem wipe_bar {is vs : List Nat} {σ2 : L2.St} (h : Bar is (L2.wipe σ vs) σ2) (hs : ∀ i ∈ is, i ∈ vs) : L2.wipe σ2 vs = L2.wipe σ vs := by
  have out : ∀ (τ : L2.St) (l : List Nat) (j : Nat), j ∉ l → (L2.wipe τ l)[j]? = τ[j]? := fun τ l j hj => wipe_out hj
  have inn : ∀ (τ : L2.St) (l : List Nat) (j : Nat), j ∈ l → j < τ.length → (L2.wipe τ l)[j]? = some none := by
    intro τ l
    induction l with
    | nil => intro j hj _; cases hj
    | cons v l ih =>
      intro j hj hl
      show ((L2.wipe τ l).set v none)[j]? = some none
      by_cases z : v = j
      · subst z; rw [List.getElem?_set_self (by rw [wipe_length]; exact hl)]
      · rw [List.getElem?_set_ne z]
        rcases List.mem_cons.mp hj with e | e
        · exact absurd e.symm z
        · exact ih j e hl
  apply List.ext_getElem?
  intro j
  have hl : σ2.length = σ.length := by rw [h.1, wipe_length]
  by_cases hj : j ∈ vs
  · by_cases hl2 : j < σ.length
    · rw [inn _ _ _ hj (by rw [hl]; exact hl2), inn _ _ _ hj hl2]
    · rw [List.getElem?_eq_none (by rw [wipe_length, hl]; omega), List.getElem?_eq_none (by rw [wipe_length]; omega)]
  · rw [out _ _ _ hj, h.2 j (fun z => hj (hs j z))]
/-- the tests of a clause, pure -/
def DPTs (X : Cx) (c : Ctx) (ifs : List Expr) (f : Env → Option Bool) : Prop := ∃ tt : TT, PTs X ifs tt ∧ ∀ R pn σ ρ H M, Good c R pn σ ρ H M → ∀ b, f ρ = some b → ∀ Q : Bool → Hp → Prop, (∀ H', Gro H H' → Q b H') → tt σ H Q
theorem dpts_nil : DPTs X c [] (fun _ => some true) := ⟨_, pts_nil, fun R pn σ ρ H M g b e Q q => by cases e; exact q H (Gro.refl H)⟩
theorem dpts_one {e : Expr} {f : Env → Option Bool} (h : DPT X c e f) : DPTs X c [e] f := let ⟨tt, p, q⟩ := h; ⟨tt, pts_one p, q⟩
/-- readings that do not hang on where one stands -/
def rdP (c : Ctx) (f : Env → Option D) : TE := fun σ H Q => ∃ R pn ρ M d, Good c R pn σ ρ H M ∧ f ρ = some d ∧ ∀ v H', Gro H H' → TR c.K (mask H' M) d v → Q v H'
def rdT (c : Ctx) (f : Env → Option Bool) : TT := fun σ H Q => ∃ R pn ρ M b, Good c R pn σ ρ H M ∧ f ρ = some b ∧ ∀ H', Gro H H' → Q b H'
theorem DP.can {e : Expr} {f : Env → Option D} (h : DP X c e f) : PE X e (rdP c f) := by
  obtain ⟨te, pe, h⟩ := h
  exact ⟨fun pins s σ H Q I ⟨R, pn, ρ, M, d, g, e, q⟩ => pe.run pins s σ H Q I (h R pn σ ρ H M g d e Q q)⟩
theorem DPTs.can {e : List Expr} {f : Env → Option Bool} (h : DPTs X c e f) : PTs X e (rdT c f) := by
  obtain ⟨te, pe, h⟩ := h
  exact ⟨fun pins s σ H Q I ⟨R, pn, ρ, M, d, g, e, q⟩ => pe.run pins s σ H Q I (h R pn σ ρ H M g d e Q q)⟩
def compGo (tgt : D → Env → Option Env) (test : Env → Option Bool) (elt : Env → Option D) (ρ : Env) : List D → Option (List D)
  | [] => some []
  | d :: ds => match tgt d ρ with
    | none => none
    | some ρ1 => match test ρ1 with
      | none => none
      | some false => compGo tgt test elt ρ ds
      | some true => match elt ρ1, compGo tgt test elt ρ ds with
        | some z, some zs => some (z :: zs)
        | _, _ => none
def gComp (src : Env → Option (List D)) (own : List Nat) (tgt : D → Env → Option Env) (test : Env → Option Bool) (elt : Env → Option D) : Env → Option (List D) := fun ρ => match src ρ with
  | none => none
  | some ds => match compGo tgt test elt (wipeE ρ own) ds with
    | some zs => if zs.length ≤ sizeLine then some zs else none
    | none => none
theorem lc_read {wi : TI} {own : List (Str × Nat)} {is : List Nat} {src : Env → Option (List D)} {F : D → Env → Option Env} {test : Env → Option Bool} {f : Env → Option D} (hsub : ∀ i ∈ is, i ∈ own.map (·.2))
    (h : ∀ R pn σ ρ H M, Good c R pn σ ρ H M → ∀ ds, src ρ = some ds → ∀ Q : It → Hp → Prop, (∀ J H', Gro H H' → Goes c (fun H2 M2 => Gro H' H2 ∧ Gro (mask H' M) (mask H2 M2)) J ds → Q J H') → wi σ H Q) :
    ∀ R pn σ ρ H M, Good c R pn σ ρ H M → ∀ zs, gComp src (own.map (·.2)) F test f ρ = some zs → ∀ Q : VK, (∀ p H' vs, H p = none → Gro H H' → H' p = some (.lst vs) → TRs c.K (mask H' (un M fun a => a = p)) zs vs → Q (.ref p) H') →
      tLc wi (rdG c is F) (rdT c test) (rdP c f) (own.map (·.2)) σ H Q := by
  intro R pn σ ρ H M g zs e Q q
  unfold gComp at e
  split at e
  · cases e
  · rename_i ds o
    split at e
    · rename_i zs' o2
      split at e
      · rename_i hl
        cases e
        refine h R pn σ ρ H M g ds o _ fun J H1 k1 go => fun Dl hD => ?_
        have g1 := g.gro k1
        let Pv : Nat → Hp → Prop := fun i H' => i ≤ ds.length ∧ ∃ (ys rest : List D) (acc : List V), compGo F test f (wipeE ρ (own.map (·.2))) (ds.drop i) = some rest ∧ zs = ys ++ rest ∧ H' Dl = some (.lst acc) ∧ TRs c.K (mask H' (un M fun a => a = Dl)) ys acc ∧ Gro H1 H'
        have ivs : ∀ {H' : Hp}, Gro H1 H' → (fun H2 M2 => Gro H1 H2 ∧ Gro (mask H1 M) (mask H2 M2)) H' (un M fun a => a = Dl) := fun {H'} k => ⟨k, fun a u e => by
          obtain ⟨n, e'⟩ := mask_some e
          rw [mask_out (fun z => z.elim n fun z => by rw [z, hD] at e'; cases e')]; exact k _ _ e'⟩
        refine ⟨fun i m H' => m = ds.length - i ∧ Pv i H', ⟨ds.length, by simp, Nat.zero_le _, [], zs, [], by simpa using o2, rfl, upd_same, trs_nil, Gro.new hD⟩, ?_⟩
        rintro i m H' ⟨rfl, hi, ys, rest, acc, eg, ez, hl', ts, k⟩
        have g2 := g1.addM hD k hl'
        obtain ⟨g_go, g_stop⟩ := go H' _ (ivs k) g2.trk i
        cases hx : ds[i]? with
        | none =>
          refine .inl ⟨g_stop hx, ?_⟩
          have : ds.length ≤ i := List.getElem?_eq_none_iff.mp hx
          rw [List.drop_of_length_le this] at eg
          cases eg
          rw [List.append_nil] at ez
          subst ez
          exact q Dl H' acc (none_of_gro k1 hD) (k1.trans k) hl' ts
        | some d =>
          obtain ⟨hgo, hy⟩ := g_go d hx
          have hlt : i < ds.length := (List.getElem?_eq_some_iff.mp hx).1
          have hdr : ds.drop i = d :: ds.drop (i + 1) := by
            rw [List.drop_eq_getElem_cons hlt]; congr 1
            exact (List.getElem?_eq_some_iff.mp hx).2
          refine .inr ⟨hgo, Pv (i + 1), fun H'' p => ⟨ds.length - (i + 1), by omega, rfl, p⟩, fun x H2 y => ?_⟩
          obtain ⟨k2, tx⟩ := hy x H2 y
          have g3 := (g2.gro k2).wipe (own.map (·.2))
          rw [hdr, compGo] at eg
          split at eg
          · cases eg
          · rename_i ρ1 o3
            refine ⟨_, _, _, ρ1, d, g3, tx, o3, fun σ2 bar g4 => ⟨wipe_bar bar hsub, ?_⟩⟩
            split at eg
            · cases eg
            · rename_i o4
              refine ⟨_, _, _, _, false, g4, o4, fun H3 k3 => iteF ⟨hlt, ys, rest, acc, eg, ez, k3 _ _ (k2 _ _ hl'), ts.mono ((k2.trans k3).mask.rx) _ _, (k.trans k2).trans k3⟩⟩
            · rename_i o4
              refine ⟨_, _, _, _, true, g4, o4, fun H3 k3 => iteT ?_⟩
              split at eg
              · rename_i z zs2 o5 o6
                cases eg
                refine ⟨_, _, _, _, z, g4.gro k3, o5, fun w H4 k4 tw => ?_⟩
                have hl4 : H4 Dl = some (.lst acc) := k4 _ _ (k3 _ _ (k2 _ _ hl'))
                refine ⟨acc, hl4, ?_, hlt, ys ++ [z], zs2, acc ++ [w], o6, by rw [ez]; simp, upd_same, ?_, fun a u ea => ?_⟩
                · have := ts.len
                  have e2 : zs.length = ys.length + (zs2.length + 1) := by rw [ez]; simp
                  omega
                · have hm : mask (upd H4 Dl (.lst (acc ++ [w]))) (un M fun a => a = Dl) = mask H4 (un M fun a => a = Dl) := mask_upd (.inr rfl)
                  rw [hm]
                  exact (ts.mono ((k2.trans k3).trans k4).mask.rx _ _).append (trs_cons tw trs_nil)
                · rw [upd_ne (ne_of_none ea hD)]
                  exact k4 _ _ (k3 _ _ (k2 _ _ (k _ _ ea)))
              · cases eg
      · cases e
    · cases e
theorem dl_comp {elt tg iter : Expr} {ifs : List Expr} {scope : Scope} {own : List (Str × Nat)} {is : List Nat} {src : Env → Option (List D)} {F : D → Env → Option Env} {test : Env → Option Bool} {f : Env → Option D} (hc : X.calm = true) (hN : X.N.Nodup) (hi : DIp X c tg iter src) (ok : BlkOk X.N X.env.scope scope own)
    (hsub : ∀ i ∈ is, i ∈ own.map (·.2))
    (hg : ∀ (s : Shared) (H : Hp) (C : Addr) (cl : List (Str × Addr)) (fp : List Addr), DG (X.blk s H scope (compEnvC scope cl C X.env) fp) c tg is F) (ht : ∀ (s : Shared) (H : Hp) (C : Addr) (cl : List (Str × Addr)) (fp : List Addr), DPTs (X.blk s H scope (compEnvC scope cl C X.env) fp) c ifs test)
    (he : ∀ (s : Shared) (H : Hp) (C : Addr) (cl : List (Str × Addr)) (fp : List Addr), DP (X.blk s H scope (compEnvC scope cl C X.env) fp) c elt f) (hs : ∀ x, foldedSetIterable iter X.env x = pure x := by intro _; rfl) :
    DLs X c (.ListComp elt [⟨tg, iter, ifs, 0⟩] scope pos) (gComp src (own.map (·.2)) F test f) := by
  obtain ⟨wi, pi, h⟩ := hi
  exact ⟨_, pe_lc hc hN pi ok hg (fun s H C cl fp => (ht s H C cl fp).can) (fun s H C cl fp => (he s H C cl fp).can) hs, lc_read hsub h⟩
end
end DL

/-! DL6: statements. -/
namespace DL
open PySem L2 PyProof.Rows
open Classical
inductive Fl where
  | nx | bk | ct | rt (s : S)
section
variable (X : Cx) (c : Ctx) (W : WX) (np : List Nat)
def PostS (R : AS) (pn : List (Nat × V)) (D : Ends) (H : Hp) (M : AS) : O Fl → Prop
  | .no => False
  | .ok .nx ρ' => ∀ σ' H' M', Good c R pn σ' ρ' H' M' → Fr R H M H' M' → D.nx σ' H'
  | .ok .bk ρ' => ∀ σ' H' M', Good c R pn σ' ρ' H' M' → Fr R H M H' M' → D.bk σ' H'
  | .ok .ct ρ' => ∀ σ' H' M', Good c R pn σ' ρ' H' M' → Fr R H M H' M' → D.ct σ' H'
  | .ok (.rt s) ρ' => ∀ v σ' H' M' A, Good c (un R A) pn σ' ρ' H' M' → (∀ a, A a → ¬ R a) → OR c (mask H' M') H' s v A → Fr R H M H' M' → D.rt v H'
  | .ex k ρ' => ∀ σ' H' M', Good c R pn σ' ρ' H' M' → Fr R H M H' M' → W (.ref (c.ca k)) none σ' H'
/-- a statement; np: the places that it may not store to -/
def DSt (st : Stmt) (f : Env → O Fl) : Prop := ∃ ts : TS, PS X st ts ∧ ∀ R pn σ ρ H M, (∀ p ∈ pn, p.1 ∈ np) → Good c R pn σ ρ H M → ∀ D : Ends, PostS c W R pn D H M (f ρ) → ts D σ H
def DSs (st : List Stmt) (f : Env → O Fl) : Prop := ∃ ts : TS, PSs X st ts ∧ ∀ R pn σ ρ H M, (∀ p ∈ pn, p.1 ∈ np) → Good c R pn σ ρ H M → ∀ D : Ends, PostS c W R pn D H M (f ρ) → ts D σ H
end
section
variable {X : Cx} {c : Ctx} {W : WX} {np : List Nat} {R : AS} {pn : List (Nat × V)} {σ : L2.St} {ρ : Env} {H H1 : Hp} {M M1 : AS} {pos : Pos} {Dn : Ends}
theorem PostS.after {o : O Fl} (h : PostS c W R pn Dn H M o) (f : Fr R H M H1 M1) : PostS c W R pn Dn H1 M1 o := by
  cases o with
  | no => exact h
  | ok a ρ' =>
    cases a with
    | nx => exact fun σ' H' M' g f' => h σ' H' M' g (f.trans f')
    | bk => exact fun σ' H' M' g f' => h σ' H' M' g (f.trans f')
    | ct => exact fun σ' H' M' g f' => h σ' H' M' g (f.trans f')
    | rt s => exact fun v σ' H' M' A g dj r f' => h v σ' H' M' A g dj r (f.trans f')
  | ex k ρ' => exact fun σ' H' M' g f' => h σ' H' M' g (f.trans f')

/-! ### blocks -/
def sNx : Env → O Fl := fun ρ => .ok .nx ρ
def sSeq (f g : Env → O Fl) : Env → O Fl := fun ρ => match f ρ with
  | .ok .nx ρ => g ρ
  | o => o
theorem dss_nil : DSs X c W np [] sNx := ⟨_, pss_nil, fun R pn σ ρ H M hn g D q => q σ H M g Fr.refl⟩
theorem dss_cons {st : Stmt} {rest : List Stmt} {f g : Env → O Fl} (h1 : DSt X c W np st f) (h2 : DSs X c W np rest g) : DSs X c W np (st :: rest) (sSeq f g) := by
  obtain ⟨t1, p1, h1⟩ := h1
  obtain ⟨t2, p2, h2⟩ := h2
  refine ⟨_, pss_cons p1 p2, fun R pn σ ρ H M hn g0 D q => h1 R pn σ ρ H M hn g0 _ ?_⟩
  unfold sSeq at q
  cases o : f ρ with
  | no => rw [o] at q; exact q
  | ex k ρ' => rw [o] at q; exact q
  | ok a ρ' =>
    rw [o] at q
    cases a with
    | nx => exact fun σ' H' M' g' fr => h2 R pn σ' ρ' H' M' hn g' D (PostS.after q fr)
    | bk => exact q
    | ct => exact q
    | rt s => exact q
theorem dss_one {st : Stmt} {f : Env → O Fl} (h1 : DSt X c W np st f) : DSs X c W np [st] f := by
  obtain ⟨t1, p1, h1⟩ := h1
  exact ⟨_, pss_one p1, h1⟩
theorem ds_pass : DSt X c W np (.Pass pos) sNx := ⟨_, ps_pass, fun R pn σ ρ H M hn g D q => q σ H M g Fr.refl⟩
theorem ds_cont : DSt X c W np (.Continue pos) (fun ρ => .ok .ct ρ) := ⟨_, ps_continue, fun R pn σ ρ H M hn g D q => q σ H M g Fr.refl⟩
theorem ds_break : DSt X c W np (.Break pos) (fun ρ => .ok .bk ρ) := ⟨_, ps_break, fun R pn σ ρ H M hn g D q => q σ H M g Fr.refl⟩
theorem ds_doc {x j pos'} : DSt X c W np (.Expr (.Constant (.str x) j pos) pos') sNx := ⟨_, ps_doc, fun R pn σ ρ H M hn g D q => q σ H M g Fr.refl⟩
/-- code that is never come to -/
def sNo : Env → O Fl := fun _ => .no
theorem ds_never {st : Stmt} : DSt X c W np st sNo := ⟨_, ps_never, fun R pn σ ρ H M hn g D q => q.elim⟩
theorem dss_never {st : List Stmt} : DSs X c W np st sNo := ⟨_, pss_never, fun R pn σ ρ H M hn g D q => q.elim⟩

/-! ### names stored -/
def sSet (i : Nat) (f : Env → O S) : Env → O Fl := fun ρ => (f ρ).bind fun s ρ => if i < ρ.length then .ok .nx (ρ.set i (some s)) else .no
theorem set_read {i : Nat} {te : TE} {f : Env → O S} (hi : i ∉ np) (h : ∀ R pn σ ρ H M, Good c R pn σ ρ H M → ∀ Q, PostE c W R pn σ H M Q (f ρ) → te σ H Q)
    (hn : ∀ p ∈ pn, p.1 ∈ np) (g0 : Good c R pn σ ρ H M) (q : PostS c W R pn Dn H M (sSet i f ρ)) : te σ H fun v H1 => Dn.nx (σ.set i (some v)) H1 := by
  refine h R pn σ ρ H M g0 _ ?_
  unfold sSet at q
  cases o : f ρ with
  | no => rw [o] at q; exact q
  | ex k ρ' => rw [o] at q; exact fun H' M' g' fr => q σ H' M' g' fr
  | ok s ρ1 =>
    rw [o] at q
    intro v H' M' A g1 dj r fr
    dsimp only [O.bind] at q
    split at q
    · rename_i hl
      exact q _ H' M' (Good.fill (g1.forget i) (by rw [← g1.len]; exact hl) r dj fun p hp e => absurd (hn p hp) (by rw [e]; exact hi)) fr
    · exact q.elim
theorem ds_set {i : Nat} {x : Str} {e : Expr} {f : Env → O S} {pos' : Pos} (hN : X.N.Nodup) (hx : X.N[i]? = some x) (hl : Loc X.env.scope x) (hi : i ∉ np) (h : DE X c W e f) (hs : swapsWith e (some (.Name x pos')) pos.line X.env = pure false := by rfl)
    (hf : X.fn x = true ∨ X.env.scope.names.lookup x = some .local := by first | exact .inl rfl | exact .inr rfl | assumption) : DSt X c W np (.Assign [.Name x pos'] e pos) (sSet i f) := by
  obtain ⟨te, pe, h⟩ := h
  exact ⟨_, ps_set hN hx hl pe hs hf, fun R pn σ ρ H M hn g0 D q => set_read hi h hn g0 q⟩
/-- a name's tree, taken out of it -/
def fTake (i : Nat) : Env → O S := fun ρ => match ρ[i]? with
  | some (some s) => .ok s (ρ.set i none)
  | _ => .no
theorem de_take {i : Nat} {x : Str} {p : Pos} (h : PE X (.Name x p) (tVar i)) : DE X c W (.Name x p) (fTake i) := by
  refine ⟨_, h, fun R pn σ ρ H M g Q q => ?_⟩
  unfold fTake at q
  split at q
  · rename_i s e
    obtain ⟨v, A, hv, r, dj, _, g'⟩ := g.slot e
    exact ⟨v, hv, q v H M A g' dj r Fr.refl⟩
  · exact q.elim
/-- expressions whose value is dropped -/
def sDrop (f : Env → O S) : Env → O Fl := fun ρ => (f ρ).bind fun _ ρ => .ok .nx ρ
theorem ds_expr {e : Expr} {f : Env → O S} (h : DE X c W e f) (hs : swapsWith e none pos.line X.env = pure false := by rfl) : DSt X c W np (.Expr e pos) (sDrop f) := by
  obtain ⟨te, pe, h⟩ := h
  refine ⟨_, ps_expr pe hs, fun R pn σ ρ H M hn g0 D q => h R pn σ ρ H M g0 _ ?_⟩
  unfold sDrop at q
  cases o : f ρ with
  | no => rw [o] at q; exact q
  | ex k ρ' => rw [o] at q; exact fun H' M' g' fr => q σ H' M' g' fr
  | ok s ρ1 =>
    rw [o] at q
    exact fun v H' M' A g1 dj r fr => q σ H' M' g1.un fr
def sRet (f : Env → O S) : Env → O Fl := fun ρ => (f ρ).bind fun s ρ => .ok (.rt s) ρ
theorem ds_ret {e : Expr} {f : Env → O S} (h : DE X c W e f) : DSt X c W np (.Return (some e) pos) (sRet f) := by
  obtain ⟨te, pe, h⟩ := h
  refine ⟨_, ps_ret pe, fun R pn σ ρ H M hn g0 D q => h R pn σ ρ H M g0 _ ?_⟩
  unfold sRet at q
  cases o : f ρ with
  | no => rw [o] at q; exact q
  | ex k ρ' => rw [o] at q; exact fun H' M' g' fr => q σ H' M' g' fr
  | ok s ρ1 =>
    rw [o] at q
    exact fun v H' M' A g1 dj r fr => q v σ H' M' A g1 dj r fr
def sIf (t : Env → O Bool) (f g : Env → O Fl) : Env → O Fl := fun ρ => (t ρ).bind fun b ρ => if b then f ρ else g ρ
theorem ds_if {e : Expr} {a b : List Stmt} {t : Env → O Bool} {f g : Env → O Fl} (ht : DT X c W e t) (ha : DSs X c W np a f) (hb : DSs X c W np b g) : DSt X c W np (.If e a b pos) (sIf t f g) := by
  obtain ⟨tt, pt, ht⟩ := ht
  obtain ⟨t1, p1, h1⟩ := ha
  obtain ⟨t2, p2, h2⟩ := hb
  refine ⟨_, ps_if pt p1 p2, fun R pn σ ρ H M hn g0 D q => ht R pn σ ρ H M g0 _ ?_⟩
  unfold sIf at q
  cases o : t ρ with
  | no => rw [o] at q; exact q
  | ex k ρ' => rw [o] at q; exact fun H' M' g' fr => q σ H' M' g' fr
  | ok s ρ1 =>
    rw [o] at q
    intro H1 M1 g1 fr
    cases s with
    | true => exact iteT (h1 R pn σ ρ1 H1 M1 hn g1 D (PostS.after q fr))
    | false => exact iteF (h2 R pn σ ρ1 H1 M1 hn g1 D (PostS.after q fr))
/-- x op= e of ints -/
def sAug (i : Nat) (F : D → D → Option D) (f : Env → O D) : Env → O Fl := fun ρ => match ρ[i]? with
  | some (some (.dat a)) => (f ρ).bind fun b ρ => match F a b with
    | some d => if i < ρ.length then .ok .nx (ρ.set i (some (.dat d))) else .no
    | none => .no
  | _ => .no
theorem ds_augI {op : Operator} {i : Nat} {x : Str} {e : Expr} {f : Env → O D} {pos' : Pos} {F : D → D → Option D} {h : Int → Int → Int} (hN : X.N.Nodup) (hx : X.N[i]? = some x) (hl : Loc X.env.scope x) (hi : i ∉ np) (he : DD X c W e f) (ho : PIp X op (ipI h))
    (hF : ∀ a b d, F a b = some d → ∃ m n, a = .int m ∧ b = .int n ∧ d = .int (h m n))
    (hf : X.fn x = true ∨ X.env.scope.names.lookup x = some .local := by first | exact .inl rfl | exact .inr rfl | assumption) : DSt X c W np (.AugAssign (.Name x pos') op e pos) (sAug i F f) := by
  obtain ⟨te, pe, he⟩ := he
  refine ⟨_, ps_aug hN hx hl pe ho hf, fun R pn σ ρ H M hn g0 D q => ?_⟩
  unfold sAug at q
  split at q
  · rename_i a ea
    obtain ⟨v, hv, tv⟩ := g0.slotD ea
    refine ⟨v, hv, he R pn σ ρ H M g0 _ ?_⟩
    cases o : f ρ with
    | no => rw [o] at q; exact q
    | ex k ρ' => rw [o] at q; exact fun H' M' g' fr => q σ H' M' g' fr
    | ok b ρ1 =>
      rw [o] at q
      intro u H1 M1 g1 tu fr
      dsimp only [O.bind] at q
      split at q
      · rename_i d ed
        split at q
        · rename_i hlen
          obtain ⟨m, n, rfl, rfl, rfl⟩ := hF _ _ _ ed
          rw [TR] at tv tu
          subst tv; subst tu
          refine ⟨m, n, rfl, rfl, q _ H1 M1 (g1.setD (by rw [← g1.len]; exact hlen) (by rw [TR]) fun p hp e => absurd (hn p hp) (by rw [e]; exact hi)) fr⟩
        · exact q.elim
      · exact q.elim
  · exact q.elim
theorem ds_add {i : Nat} {x : Str} {e : Expr} {f : Env → O D} {pos' : Pos} (hN : X.N.Nodup) (hx : X.N[i]? = some x) (hl : Loc X.env.scope x) (hi : i ∉ np) (he : DD X c W e f)
    (hf : X.fn x = true ∨ X.env.scope.names.lookup x = some .local := by first | exact .inl rfl | exact .inr rfl | assumption) : DSt X c W np (.AugAssign (.Name x pos') .Add e pos) (sAug i D.addI f) :=
  ds_augI hN hx hl hi he ip_add (fun a b d e => by unfold D.addI at e; split at e <;> cases e; exact ⟨_, _, rfl, rfl, rfl⟩) hf
/-- a tuple's items to names -/
def sAsg (F : D → Env → Option Env) (f : Env → O D) : Env → O Fl := fun ρ => (f ρ).bind fun d ρ => match F d ρ with
  | some ρ' => .ok .nx ρ'
  | none => .no
theorem ds_asg {tg e : Expr} {is : List Nat} {F : D → Env → Option Env} {f : Env → O D} (hg : DG X c tg is F) (hi : ∀ i ∈ is, i ∉ np) (he : DD X c W e f) (hs : swapsWithSole [tg] e pos.line X.env = pure false := by rfl) (hw : swappedStores [tg] e X.env = pure none := by rfl)
    (h1 : (assignEach [tg] X.env).map (·.2) = [assign tg X.env] := by rfl) : DSt X c W np (.Assign [tg] e pos) (sAsg F f) := by
  obtain ⟨te, pe, he⟩ := he
  refine ⟨_, ps_asg pe hg hs hw h1, fun R pn σ ρ H M hn g0 D q => he R pn σ ρ H M g0 _ ?_⟩
  unfold sAsg at q
  cases o : f ρ with
  | no => rw [o] at q; exact q
  | ex k ρ' => rw [o] at q; exact fun H' M' g' fr => q σ H' M' g' fr
  | ok d ρ1 =>
    rw [o] at q
    intro v H1 M1 g1 tv fr
    dsimp only [O.bind] at q
    split at q
    · rename_i ρ2 e2
      exact ⟨R, M1, ρ1, ρ2, d, g1.nop, tv, e2, fun σ2 bar g2 => q σ2 H1 M1 (g2.pins fun p hp => by rw [bar.2 p.1 fun z => hi _ z (hn p hp)]; exact g1.pin p hp) fr⟩
    · exact q.elim

/-! ### for -/
def clr (ρ : Env) : List Nat → Env
  | [] => ρ
  | i :: is => (clr ρ is).set i none
theorem Good.clr (g : Good c R pn σ ρ H M) : ∀ is : List Nat, Good c R pn σ (DL.clr ρ is) H M
  | [] => g
  | i :: is => (Good.clr g is).forget i
/-- the turns; behind each the names at cl are forgotten -/
def forGo (F : D → Env → Option Env) (cl : List Nat) (body : Env → O Fl) : List D → Env → O Fl
  | [], ρ => .ok .nx ρ
  | d :: ds, ρ => match F d ρ with
    | none => .no
    | some ρ1 => match body ρ1 with
      | .ok .nx ρ2 => forGo F cl body ds (clr ρ2 cl)
      | .ok .ct ρ2 => forGo F cl body ds (clr ρ2 cl)
      | .ok .bk ρ2 => .ok .nx (clr ρ2 cl)
      | o => o
def sFor (src : Env → Option (List D)) (F : D → Env → Option Env) (cl : List Nat) (body : Env → O Fl) : Env → O Fl := fun ρ => match src ρ with
  | some ds => forGo F cl body ds (clr ρ cl)
  | none => .no
theorem ds_for {tg iter : Expr} {body : List Stmt} {is cl : List Nat} {src : Env → Option (List D)} {F : D → Env → Option Env} {f : Env → O Fl} (hp : PassesOwn (model X.prog X.w) X.A X.env X.xe) (hc : X.calm = true) (hi : DId X c tg iter src) (hg : DG X c tg is F) (hni : ∀ i ∈ is, i ∉ np) (hb : DSs X c W np body f)
    (hs : ∀ x, foldedSetIterable iter X.env x = pure x := by intro _; rfl) : DSt X c W np (.For tg iter body [] pos) (sFor src F cl f) := by
  obtain ⟨wi, pi, h⟩ := hi
  obtain ⟨ts, ps, hb⟩ := hb
  refine ⟨_, ps_for hp hc pi hg ps hs, fun R pn σ ρ H M hn g0 D q => ?_⟩
  unfold sFor at q
  cases o : src ρ with
  | none => rw [o] at q; exact q.elim
  | some ds =>
    rw [o] at q
    refine h R pn σ ρ H M g0 ds o _ fun J H1 k1 go => ?_
    let Pv : Nat → L2.St → Hp → Prop := fun i σ' H' => i ≤ ds.length ∧ ∃ ρ' M', Good c R pn σ' ρ' H' M' ∧ Fr R H1 M H' M' ∧ PostS c W R pn D H1 M (forGo F cl f (ds.drop i) ρ')
    refine ⟨fun i m σ' H' => m = ds.length - i ∧ Pv i σ' H', ⟨ds.length, by simp, Nat.zero_le _, _, M, (g0.gro k1).clr cl, Fr.refl, PostS.after q (Fr.gro g0 k1)⟩, ?_⟩
    rintro i m σ' H' ⟨rfl, hi, ρ', M', g', fr', q'⟩
    obtain ⟨g_go, g_stop⟩ := go H' M' fr'.gr g'.trk i
    cases hx : ds[i]? with
    | none =>
      refine .inl ⟨g_stop hx, ?_⟩
      have : ds.length ≤ i := List.getElem?_eq_none_iff.mp hx
      rw [List.drop_of_length_le this] at q'
      exact q' σ' H' M' g' fr'
    | some d =>
      obtain ⟨hgo, hy⟩ := g_go d hx
      have hlt : i < ds.length := (List.getElem?_eq_some_iff.mp hx).1
      have hdr : ds.drop i = d :: ds.drop (i + 1) := by
        rw [List.drop_eq_getElem_cons hlt]; congr 1
        exact (List.getElem?_eq_some_iff.mp hx).2
      rw [hdr, forGo] at q'
      refine .inr ⟨hgo, Pv (i + 1), fun σ2 H2 p => ⟨ds.length - (i + 1), by omega, rfl, p⟩, fun x H2 y => ?_⟩
      obtain ⟨k2, tx⟩ := hy x H2 y
      have g2 := g'.gro k2
      have fr2 := fr'.trans (Fr.gro g' k2)
      split at q'
      · exact q'.elim
      · rename_i ρ1 o3
        refine ⟨R, M', ρ', ρ1, d, g2.nop, tx, o3, fun σ3 bar g3 => ?_⟩
        have g3' : Good c R pn σ3 ρ1 H2 M' := g3.pins fun p hp => by rw [bar.2 p.1 fun z => hni _ z (hn p hp)]; exact g2.pin p hp
        refine hb R pn σ3 ρ1 H2 M' hn g3' _ ?_
        cases ob : f ρ1 with
        | no => rw [ob] at q'; exact q'
        | ex k ρ2 => rw [ob] at q'; exact PostS.after (o := .ex k ρ2) q' fr2
        | ok a ρ2 =>
          rw [ob] at q'
          cases a with
          | nx => exact fun σ4 H4 M4 g4 fr4 => ⟨hlt, _, M4, g4.clr cl, fr2.trans fr4, q'⟩
          | ct => exact fun σ4 H4 M4 g4 fr4 => ⟨hlt, _, M4, g4.clr cl, fr2.trans fr4, q'⟩
          | bk => exact fun σ4 H4 M4 g4 fr4 => q' σ4 H4 M4 (g4.clr cl) (fr2.trans fr4)
          | rt s => exact PostS.after (o := .ok (.rt s) ρ2) q' fr2
end
end DL

/-! DL7: what a def promises over trees; calls of own defs and methods; instances made. -/
namespace DL
open PySem L2 PyProof.Rows
open Classical
section
variable {c : Ctx} {R : AS} {pn : List (Nat × V)} {σ : L2.St} {ρ : Env} {H H' : Hp} {M M' : AS}
/-- more names, without a value -/
theorem Good.more (g : Good c R pn σ ρ H M) (k : Nat) : Good c R pn (σ ++ List.replicate k none) (ρ ++ List.replicate k none) H M := by
  obtain ⟨fp, o, dj, m⟩ := g.own
  refine ⟨by simp [g.len], ⟨fp, fun i s e => ?_, dj, m⟩, g.sub, g.trk, fun p hp => ?_⟩
  · have hi : i < ρ.length := by
      by_cases z : i < ρ.length
      · exact z
      · rw [List.getElem?_append_right (by omega), List.getElem?_replicate] at e
        split at e <;> cases e
    rw [List.getElem?_append_left hi] at e
    obtain ⟨v, e1, e2⟩ := o i s e
    exact ⟨v, by rw [List.getElem?_append_left (by rw [← g.len]; exact hi)]; exact e1, e2⟩
  · have := g.pin p hp
    have hi := (List.getElem?_eq_some_iff.mp this).1
    rw [List.getElem?_append_left hi]; exact this
end
def pinsOf (ios : List Nat) (vs : List V) : List (Nat × V) := ios.filterMap fun i => (vs[i]?).map fun v => (i, v)
theorem mem_pinsOf {ios : List Nat} {vs : List V} {p : Nat × V} (h : p ∈ pinsOf ios vs) : p.1 ∈ ios ∧ vs[p.1]? = some p.2 := by
  obtain ⟨i, hi, e⟩ := List.mem_filterMap.mp h
  obtain ⟨v, hv, rfl⟩ := Option.map_eq_some_iff.mp e
  exact ⟨hi, hv⟩
theorem pinsOf_mem {ios : List Nat} {vs : List V} {i : Nat} {v : V} (hi : i ∈ ios) (hv : vs[i]? = some v) : (i, v) ∈ pinsOf ios vs := List.mem_filterMap.mpr ⟨i, hi, by rw [hv]; rfl⟩
/-- what a def is to do: from its arguments' trees; the names at ios are handed back -/
def PostF (c : Ctx) (R : AS) (pn : List (Nat × V)) (H : Hp) (M : AS) (Q : VK) (E : XK) : O S → Prop
  | .no => False
  | .ok s ρ' => ∀ v σ' H' M' B, Good c (un R B) pn σ' ρ' H' M' → (∀ a, B a → ¬ R a) → OR c (mask H' M') H' s v B → Fr R H M H' M' → Q v H'
  | .ex k ρ' => ∀ σ' H' M', Good c R pn σ' ρ' H' M' → Fr R H M H' M' → E (.ref (c.ca k)) none H'
def spF (c : Ctx) (n : Nat) (ios : List Nat) (F : List S → O S) : Sp := fun vs H Q E => vs.length = n ∧ ∃ (R M : AS) (ss : List S), Good c R (pinsOf ios vs) (vs.map some) (ss.map some) H M ∧ PostF c R (pinsOf ios vs) H M Q E (F ss)
/-- a body, run on arguments -/
def runF (k : Nat) (b : Env → O Fl) : List S → O S := fun ss => match b (ss.map some ++ List.replicate k none) with
  | .ok (.rt s) ρ => .ok s ρ
  | .ok .nx ρ => .ok (.dat .non) ρ
  | .ex e ρ => .ex e ρ
  | _ => .no
section
variable {P : Program} {w : World} {K : PySem.W.Frag} {mg : Str → Option Value} {base : Heap} {c : Ctx}
theorem fn_ok {x qual : Str} {st : Stmt} {f : Addr} {fd : FuncData} {N ps : List Str} {k : Nat} {ios : List Nat} {b : Env → O Fl} (F : Fun K x qual st f fd) (S : FnScope N ps (defScope st))
    (hb : ∀ (cdv : Value) (A : Around) (outer : List PySem.Env) (s : Shared) (H : Hp) (E : XK), Room k (A.deeper (envOfC qual (defScope st) s.heap.objs.size f cdv)) →
      DSs (cxOf (L2.CX P w) P w K mg base N qual (defScope st) f cdv A outer s H E) c (fun cls d _ H => E cls d H) ios (defBody st) b) :
    FnOk P w K mg base (L2.CX P w) (k + 1) f fd ps (spF c ps.length ios (runF (N.length - ps.length) b)) := by
  refine F.okX S (fun vs H Q E h => h.1) fun cdv A outer s H vs Q E hr h => ?_
  obtain ⟨t, pt, ht⟩ := hb cdv A outer s H E hr
  refine ⟨t, pt, ?_⟩
  obtain ⟨hl, R, M, ss, g, q⟩ := h
  have g2 := g.more (N.length - ps.length)
  have hs : L2.start N vs = vs.map some ++ List.replicate (N.length - ps.length) none := by unfold L2.start; rw [hl]
  rw [hs]
  refine ht R (pinsOf ios vs) _ _ H M (fun p hp => (mem_pinsOf hp).1) g2 _ ?_
  unfold runF at q
  cases o : b (ss.map some ++ List.replicate (N.length - ps.length) none) with
  | no => rw [o] at q; exact q
  | ex e ρ => rw [o] at q; exact q
  | ok a ρ =>
    rw [o] at q
    cases a with
    | nx => exact fun σ' H' M' g' fr => q .non σ' H' M' (fun _ => False) (g'.anti fun a h => h.elim id False.elim) (fun _ z => z.elim) (or_dat (by rw [TR])) fr
    | rt s => exact fun v σ' H' M' A g' dj r fr => q v σ' H' M' A g' dj r fr
    | bk => exact q.elim
    | ct => exact q.elim
end

/-! ### arguments -/
/-- an argument: data, or the name at i, whose tree is lent -/
inductive Ag where
  | d (d : D) | io (i : Nat)
def AgR (c : Ctx) (σ : L2.St) (Hd : Hp) : List Ag → List V → Prop
  | [], vs => vs = []
  | .d d :: as, vs => ∃ v r, vs = v :: r ∧ TR c.K Hd d v ∧ AgR c σ Hd as r
  | .io i :: as, vs => ∃ v r, vs = v :: r ∧ σ[i]? = some (some v) ∧ AgR c σ Hd as r
theorem AgR.mono {c : Ctx} {σ : L2.St} {Hd Hd' : Hp} (e : Rx Hd Hd') : ∀ {as : List Ag} {vs : List V}, AgR c σ Hd as vs → AgR c σ Hd' as vs
  | [], _, h => h
  | .d d :: as, _, ⟨v, r, e1, t, h⟩ => ⟨v, r, e1, t.mono e _ _, h.mono e⟩
  | .io i :: as, _, ⟨v, r, e1, t, h⟩ => ⟨v, r, e1, t, h.mono e⟩
theorem AgR.len {c : Ctx} {σ : L2.St} {Hd : Hp} : ∀ {as : List Ag} {vs : List V}, AgR c σ Hd as vs → as.length = vs.length
  | [], _, h => by cases h; rfl
  | .d d :: as, _, ⟨v, r, e1, t, h⟩ => by subst e1; simp [h.len]
  | .io i :: as, _, ⟨v, r, e1, t, h⟩ => by subst e1; simp [h.len]
theorem AgR.getD {c : Ctx} {σ : L2.St} {Hd : Hp} : ∀ {as : List Ag} {vs : List V} {k : Nat} {d : D}, AgR c σ Hd as vs → as[k]? = some (.d d) → ∃ v, vs[k]? = some v ∧ TR c.K Hd d v
  | [], _, k, d, h, e => by simp at e
  | .d d' :: as, _, 0, d, ⟨v, r, e1, t, h⟩, e => by simp at e; subst e; subst e1; exact ⟨v, rfl, t⟩
  | .io i :: as, _, 0, d, ⟨v, r, e1, t, h⟩, e => by simp at e
  | .d d' :: as, _, k + 1, d, ⟨v, r, e1, t, h⟩, e => by subst e1; exact AgR.getD (k := k) h (by simpa using e)
  | .io i :: as, _, k + 1, d, ⟨v, r, e1, t, h⟩, e => by subst e1; exact AgR.getD (k := k) h (by simpa using e)
theorem AgR.getI {c : Ctx} {σ : L2.St} {Hd : Hp} : ∀ {as : List Ag} {vs : List V} {k i : Nat}, AgR c σ Hd as vs → as[k]? = some (.io i) → ∃ v, vs[k]? = some v ∧ σ[i]? = some (some v)
  | [], _, k, d, h, e => by simp at e
  | .d d' :: as, _, 0, d, ⟨v, r, e1, t, h⟩, e => by simp at e
  | .io i :: as, _, 0, d, ⟨v, r, e1, t, h⟩, e => by simp at e; subst e; subst e1; exact ⟨v, rfl, t⟩
  | .d d' :: as, _, k + 1, d, ⟨v, r, e1, t, h⟩, e => by subst e1; exact AgR.getI (k := k) h (by simpa using e)
  | .io i :: as, _, k + 1, d, ⟨v, r, e1, t, h⟩, e => by subst e1; exact AgR.getI (k := k) h (by simpa using e)
/-- the trees that are handed over; what comes back laid into the names -/
def gat (ρ : Env) : List Ag → Option (List S)
  | [] => some []
  | .d d :: as => (gat ρ as).map (S.dat d :: ·)
  | .io i :: as => match ρ[i]?, gat ρ as with
    | some (some s), some ss => some (s :: ss)
    | _, _ => none
def sca (ρ : Env) : List Ag → Env → Env
  | .io i :: as, r :: ρ' => (sca ρ as ρ').set i r
  | .d _ :: as, _ :: ρ' => sca ρ as ρ'
  | _, _ => ρ
/-- the places of the lent ones are ios -/
def iosOk (ios : List Nat) (as : List Ag) : Bool := (List.range as.length).all fun k => match as[k]? with
  | some (.io _) => decide (k ∈ ios)
  | _ => decide (k ∉ ios)
def isOf : List Ag → List Nat
  | [] => []
  | .io i :: as => i :: isOf as
  | .d _ :: as => isOf as
theorem gat_len {ρ : Env} : ∀ {as : List Ag} {ss : List S}, gat ρ as = some ss → ss.length = as.length
  | [], ss, h => by cases h; rfl
  | .d d :: as, ss, h => by obtain ⟨r, e, rfl⟩ := Option.map_eq_some_iff.mp h; simp [gat_len e]
  | .io i :: as, ss, h => by
    rw [gat] at h
    split at h
    · rename_i s r _ e; cases h; simp [gat_len e]
    · cases h
theorem gat_get {ρ : Env} : ∀ {as : List Ag} {ss : List S} {k : Nat} {s : S}, gat ρ as = some ss → ss[k]? = some s → (∃ d, as[k]? = some (.d d) ∧ s = .dat d) ∨ ∃ i, as[k]? = some (.io i) ∧ ρ[i]? = some (some s)
  | [], ss, k, s, h, e => by cases h; simp at e
  | .d d :: as, ss, k, s, h, e => by
    obtain ⟨r, e1, rfl⟩ := Option.map_eq_some_iff.mp h
    cases k with
    | zero => simp at e; exact .inl ⟨d, rfl, e.symm⟩
    | succ k => simpa using gat_get (k := k) e1 (by simpa using e)
  | .io i :: as, ss, k, s, h, e => by
    rw [gat] at h
    split at h
    · rename_i s' r e1 e2
      cases h
      cases k with
      | zero => simp at e; subst e; exact .inr ⟨i, rfl, e1⟩
      | succ k => simpa using gat_get (k := k) e2 (by simpa using e)
    · cases h
theorem sca_get {ρ : Env} : ∀ {as : List Ag} {ρ' : Env} {j : Nat} {s : S}, (isOf as).Nodup → as.length ≤ ρ'.length → (sca ρ as ρ')[j]? = some (some s) →
    (∃ k : Nat, as[k]? = some (.io j) ∧ ρ'[k]? = some (some s)) ∨ (j ∉ isOf as ∧ ρ[j]? = some (some s))
  | [], ρ', j, s, _, _, e => .inr ⟨by simp [isOf], by simpa [sca] using e⟩
  | .d d :: as, [], j, s, _, hl, e => by simp at hl
  | .io i :: as, [], j, s, _, hl, e => by simp at hl
  | .d d :: as, r :: ρ', j, s, nd, hl, e => by
    rcases sca_get (as := as) (ρ' := ρ') nd (by simpa using hl) (by simpa [sca] using e) with ⟨k, h1, h2⟩ | h
    · exact .inl ⟨k + 1, by simpa using h1, by simpa using h2⟩
    · exact .inr h
  | .io i :: as, r :: ρ', j, s, nd, hl, e => by
    rw [isOf, List.nodup_cons] at nd
    rw [sca] at e
    by_cases z : i = j
    · subst z
      refine .inl ⟨0, rfl, ?_⟩
      rw [List.getElem?_set] at e
      rw [if_pos rfl] at e
      split at e
      · simpa using e
      · cases e
    · rw [List.getElem?_set_ne z] at e
      rcases sca_get (as := as) (ρ' := ρ') nd.2 (by simpa using hl) e with ⟨k, h1, h2⟩ | h
      · exact .inl ⟨k + 1, by simpa using h1, by simpa using h2⟩
      · exact .inr ⟨by rw [isOf, List.mem_cons, not_or]; exact ⟨fun q => z q.symm, h.1⟩, h.2⟩
theorem sca_len {ρ : Env} : ∀ {as : List Ag} {ρ' : Env}, (sca ρ as ρ').length = ρ.length
  | [], _ => by simp [sca]
  | .d d :: as, [] => by simp [sca]
  | .io d :: as, [] => by simp [sca]
  | .d d :: as, r :: ρ' => by rw [sca]; exact sca_len
  | .io i :: as, r :: ρ' => by rw [sca, List.length_set]; exact sca_len
theorem mem_isOf {i : Nat} : ∀ {as : List Ag}, i ∈ isOf as → ∃ k : Nat, as[k]? = some (.io i)
  | [], h => by simp [isOf] at h
  | .d d :: as, h => by obtain ⟨k, e⟩ := mem_isOf (as := as) h; exact ⟨k + 1, by simpa using e⟩
  | .io j :: as, h => by
    rw [isOf, List.mem_cons] at h
    rcases h with h | h
    · exact ⟨0, by simp [h]⟩
    · obtain ⟨k, e⟩ := mem_isOf (as := as) h; exact ⟨k + 1, by simpa using e⟩
theorem isOf_mem {i : Nat} : ∀ {as : List Ag} {k : Nat}, as[k]? = some (.io i) → i ∈ isOf as
  | [], k, e => by simp at e
  | .d d :: as, 0, e => by simp at e
  | .io j :: as, 0, e => by simp at e; subst e; simp [isOf]
  | .d d :: as, k + 1, e => by rw [isOf]; exact isOf_mem (k := k) (by simpa using e)
  | .io j :: as, k + 1, e => by rw [isOf]; exact List.mem_cons_of_mem _ (isOf_mem (k := k) (by simpa using e))
theorem isOf_inj {i : Nat} : ∀ {as : List Ag} {k l : Nat}, (isOf as).Nodup → as[k]? = some (.io i) → as[l]? = some (.io i) → k = l
  | [], k, l, _, e, _ => by simp at e
  | .d d :: as, 0, l, _, e, _ => by simp at e
  | .d d :: as, k + 1, 0, _, e, f => by simp at f
  | .d d :: as, k + 1, l + 1, nd, e, f => by rw [isOf_inj (as := as) (k := k) (l := l) nd (by simpa using e) (by simpa using f)]
  | .io j :: as, 0, 0, _, _, _ => rfl
  | .io j :: as, 0, l + 1, nd, e, f => by
    rw [isOf, List.nodup_cons] at nd
    simp at e; subst e
    exact absurd (isOf_mem (k := l) (by simpa using f)) nd.1
  | .io j :: as, k + 1, 0, nd, e, f => by
    rw [isOf, List.nodup_cons] at nd
    simp at f; subst f
    exact absurd (isOf_mem (k := k) (by simpa using e)) nd.1
  | .io j :: as, k + 1, l + 1, nd, e, f => by
    rw [isOf, List.nodup_cons] at nd
    rw [isOf_inj (as := as) (k := k) (l := l) nd.2 (by simpa using e) (by simpa using f)]
/-- a call, told on trees -/
def callF (ios : List Nat) (F : List S → O S) (as : List Ag) : Env → O S := fun ρ => if iosOk ios as && decide (isOf as).Nodup then match gat ρ as with
  | some ss => match F ss with
    | .ok s ρ' => if as.length ≤ ρ'.length then .ok s (sca ρ as ρ') else .no
    | .ex k ρ' => if as.length ≤ ρ'.length then .ex k (sca ρ as ρ') else .no
    | .no => .no
  | none => .no
  else .no
section
variable {X : Cx} {c : Ctx} {W : WX} {R : AS} {pn : List (Nat × V)} {σ : L2.St} {ρ : Env} {H H1 : Hp} {M M1 : AS}
theorem iosOk_io {ios : List Nat} {as : List Ag} (h : iosOk ios as = true) {k : Nat} : (∀ i, as[k]? = some (.io i) → k ∈ ios) ∧ (k ∈ ios → k < as.length → ∃ i, as[k]? = some (.io i)) := by
  have h' := List.all_eq_true.mp h
  refine ⟨fun i e => ?_, fun hk hl => ?_⟩
  · have hl := (List.getElem?_eq_some_iff.mp e).1
    have := h' k (List.mem_range.mpr hl)
    rw [e] at this
    exact of_decide_eq_true this
  · have := h' k (List.mem_range.mpr hl)
    have e := List.getElem?_eq_getElem hl
    rw [e] at this
    cases z : as[k] with
    | io i => exact ⟨i, by rw [e, z]⟩
    | d d => rw [z] at this; exact absurd hk (of_decide_eq_true this)
/-- what a callee is handed, and what a caller has behind it -/
theorem call_read {ios : List Nat} {F : List S → O S} {as : List Ag} {vs : List V} {Q : VK} (g : Good c R pn σ ρ H M) (ar : AgR c σ (mask H M) as vs)
    (q : PostE c W R pn σ H M Q (callF ios F as ρ)) : spF c as.length ios F vs H Q (fun cls d H' => W cls d σ H') := by
  refine ⟨ar.len.symm, ?_⟩
  unfold callF at q
  split at q
  · rename_i hio
    have hio' := Bool.and_eq_true_iff.mp hio
    have nd : (isOf as).Nodup := of_decide_eq_true hio'.2
    obtain ⟨fp, ow, dj, m⟩ := g.own
    cases hg : gat ρ as with
    | none => rw [hg] at q; exact q.elim
    | some ss =>
      rw [hg] at q
      dsimp only at q
      let fpC : Nat → AS := fun k a => ∃ i, as[k]? = some (.io i) ∧ fp i a
      let Rc : AS := fun a => M a ∧ ¬ ∃ k, fpC k a
      have gc : Good c Rc (pinsOf ios vs) (vs.map some) (ss.map some) H M := by
        refine ⟨by rw [List.length_map, List.length_map, gat_len hg, ar.len], ⟨fpC, fun k s e => ?_, fun k l a ⟨i, e1, h1⟩ ⟨j, e2, h2⟩ => ?_, fun k a h => ?_⟩, fun a h => h.1, g.trk, fun p hp => ?_⟩
        · rw [List.getElem?_map] at e
          obtain ⟨s', e1, e2⟩ := Option.map_eq_some_iff.mp e
          cases e2
          rcases gat_get hg e1 with ⟨d, e3, rfl⟩ | ⟨i, e3, e4⟩
          · obtain ⟨v, hv, tv⟩ := ar.getD e3
            exact ⟨v, by rw [List.getElem?_map, hv]; rfl, or_dat tv⟩
          · obtain ⟨v, hv, sv⟩ := ar.getI e3
            obtain ⟨v', e5, e6⟩ := ow i s e4
            rw [sv] at e5; cases e5
            exact ⟨v, by rw [List.getElem?_map, hv]; rfl, OR.wide _ _ _ _ (fun a ha => ⟨i, e3, ha⟩) e6⟩
        · have := dj i j a h1 h2
          subst this
          exact isOf_inj nd e1 e2
        · obtain ⟨i, e1, h1⟩ := id h
          exact ⟨(m i a h1).1, fun z => z.2 ⟨k, h⟩⟩
        · obtain ⟨h1, h2⟩ := mem_pinsOf hp
          rw [List.getElem?_map, h2]; rfl
      refine ⟨Rc, M, ss, gc, ?_⟩
      have hR : ∀ a, R a → Rc a := fun a h => ⟨g.sub a h, fun ⟨k, i, _, h2⟩ => (m i a h2).2 h⟩
      -- the caller's names behind the call
      have back : ∀ {B : AS} {σ' : L2.St} {ρ' : Env} {H' : Hp} {M' : AS}, as.length ≤ ρ'.length → Good c (un Rc B) (pinsOf ios vs) σ' ρ' H' M' → (∀ a, B a → ¬ Rc a) → Fr Rc H M H' M' → Good c (un R B) pn σ (sca ρ as ρ') H' M' := by
        intro B σ' ρ' H' M' hlen g' dB fr
        obtain ⟨fp', ow', dj', m'⟩ := g'.own
        refine ⟨by rw [sca_len]; exact g.len, ⟨fun j a => (∃ k : Nat, as[k]? = some (.io j) ∧ fp' k a) ∨ (j ∉ isOf as ∧ fp j a), fun j s e => ?_, fun i j a h1 h2 => ?_, fun j a h => ?_⟩, fun a h => ?_, g'.trk, g.pin⟩
        · rcases sca_get nd hlen e with ⟨k, h1, h2⟩ | ⟨h1, h2⟩
          · obtain ⟨v, e1, e2⟩ := ow' k s h2
            obtain ⟨v', hv, sv⟩ := ar.getI h1
            have hp := g'.pin (k, v') (pinsOf_mem ((iosOk_io hio'.1).1 j h1) hv)
            have hp' : σ'[k]? = some (some v') := hp
            rw [e1] at hp'; cases hp'
            exact ⟨v, sv, OR.wide _ _ _ _ (fun a ha => .inl ⟨k, h1, ha⟩) e2⟩
          · obtain ⟨v, e1, e2⟩ := ow j s h2
            refine ⟨v, e1, OR.wide _ _ _ _ (fun a ha => .inr ⟨h1, ha⟩) (OR.frame fr.rx _ _ _ (fun a ha => fr.keep a ⟨(m j a ha).1, fun ⟨k, i, e3, h3⟩ => ?_⟩) e2)⟩
            have := dj i j a h3 ha
            subst this
            exact h1 (isOf_mem e3)
        · have out : ∀ {i a}, i ∉ isOf as → fp i a → Rc a := fun {i a} hi ha => ⟨(m i a ha).1, fun ⟨k, l, e3, h3⟩ => by
            have := dj l i a h3 ha
            subst this
            exact hi (isOf_mem e3)⟩
          rcases h1 with ⟨k, e1, h1⟩ | ⟨n1, h1⟩
          · rcases h2 with ⟨l, e2, h2⟩ | ⟨n2, h2⟩
            · have := dj' k l a h1 h2
              subst this
              rw [e1] at e2; cases e2; rfl
            · exact ((m' k a h1).2 (.inl (out n2 h2))).elim
          · rcases h2 with ⟨l, e2, h2⟩ | ⟨n2, h2⟩
            · exact ((m' l a h2).2 (.inl (out n1 h1))).elim
            · exact dj i j a h1 h2
        · rcases h with ⟨k, e1, h1⟩ | ⟨n1, h1⟩
          · refine ⟨(m' k a h1).1, fun z => (m' k a h1).2 ?_⟩
            rcases z with z | z
            · exact .inl (hR a z)
            · exact .inr z
          · have rc : Rc a := ⟨(m j a h1).1, fun ⟨k, l, e3, h3⟩ => by
              have := dj l j a h3 h1
              subst this
              exact n1 (isOf_mem e3)⟩
            refine ⟨g'.sub a (.inl rc), fun z => ?_⟩
            rcases z with z | z
            · exact (m j a h1).2 z
            · exact dB a z rc
        · rcases h with z | z
          · exact g'.sub a (.inl (hR a z))
          · exact g'.sub a (.inr z)
      cases hF : F ss with
      | no => rw [hF] at q; exact q.elim
      | ok s ρ' =>
        rw [hF] at q
        have q : PostE c W R pn σ H M Q (if as.length ≤ ρ'.length then .ok s (sca ρ as ρ') else .no) := q
        have hlen : as.length ≤ ρ'.length := by
          by_cases z : as.length ≤ ρ'.length
          · exact z
          · rw [if_neg z] at q; exact q.elim
        rw [if_pos hlen] at q
        exact fun v σ' H' M' B g' dB r fr => q v H' M' B (back hlen g' dB fr) (fun a hB hR' => dB a hB (hR a hR')) r ⟨fun a h => fr.keep a (hR a h), fr.gr⟩
      | ex k ρ' =>
        rw [hF] at q
        have q : PostE c W R pn σ H M Q (if as.length ≤ ρ'.length then .ex k (sca ρ as ρ') else .no) := q
        have hlen : as.length ≤ ρ'.length := by
          by_cases z : as.length ≤ ρ'.length
          · exact z
          · rw [if_neg z] at q; exact q.elim
        rw [if_pos hlen] at q
        exact fun σ' H' M' g' fr => q H' M' ((back hlen (B := fun _ => False) (g'.anti fun a h => h.elim id False.elim) (fun _ z => z.elim) fr).un) ⟨fun a h => fr.keep a (hR a h), fr.gr⟩
  · exact q.elim
end
end DL

/-! DL8: calls as expressions, raise, fields stored, lists that grow. -/
namespace L2
open PySem PySem.Spec PyProof.Rows
section
variable {X : Cx} {CX : CXT} {k : Nat} {f C : Addr} {fd : FuncData} {ps : List Str} {sp : Sp} {E : St → XK} {x m : Str} {p pos apos : Pos} {e o : Expr} {es : List Expr} {ta : TE} {t : TA}
theorem pe_call0Z (F : FnOk X.prog X.w X.K X.mg X.base CX k f fd ps sp) (hr : Room k X.A) (hg : Gl X x) (hm : X.mg x = some (.ref f)) (hk : PySem.W.keepIn X.K (.ref f) = true) (hb : Binds X.K fd ps []) (hx : ∀ σ, PassesAt CX X σ (E σ))
    (hdb : (x == ("__debug__" : Str)) = false := by decide) : PE X (.Call (.Name x p) [] [] pos) (tCallS sp E tNil) := by
  refine ⟨fun pins s σ H Q I h => ?_⟩
  refine wpAny_Call_Name_kw (ld_glob I hg hm ?_ hdb)
  exact PySem.W.callWith_K0 I.kIn hk (run_fnS (us := []) F hr hb (hx σ) I .nil h)
def tMethZ (C : Addr) (m : Str) (sp : Sp) (E : St → XK) (ta : TE) (t : TA) : TE := fun σ H Q => ta σ H fun x H1 => ∃ a dx fs, x = .ref a ∧ H1 a = some (.ins C dx fs) ∧ fs.lookup m = none ∧
  t σ H1 fun vs H2 => sp (x :: vs) H2 Q (E σ)
theorem pe_methZ {pl : Sem Bool} (he : PE X o ta) (c : Cls X.K C) (hm : Meth X.K C m f) (F : FnOk X.prog X.w X.K X.mg X.base CX k f fd ps sp) (hr : Room k X.A) (hb : Binds X.K fd ps []) (hx : ∀ σ, PassesAt CX X σ (E σ)) (ha : PA X (e :: es) t)
    (hst : starEach (e :: es) X.env = (false, eval e X.env) :: starEach es X.env := by rfl) (hpl : (backTo pos (starEach es X.env)).any (·.1) = false := by rfl)
    (ht : eval (.Call (.Attribute o m apos) (e :: es) [] pos) X.env = (do
      let ov ← eval o X.env
      standAt apos.atName
      let (f, first) ← holding [ov] (getMethod ov m pl)
      callWith pos f first (backTo pos (starEach (e :: es) X.env)) (backToKw pos (keywordEach [] X.env))) := by rfl) :
    PE X (.Call (.Attribute o m apos) (e :: es) [] pos) (tMethZ C m sp E ta t) := by
  refine ⟨fun pins s σ H Q I h => ?_⟩
  refine PySem.W.methodCall_KW (pl := pl) (thn (he.run pins s σ H _ I h) fun u s1 ⟨x, H1, I1, rx, a, dx, fs, ex, ea, l, q⟩ => ?_) ht
  subst ex
  obtain rfl : u = Value.ref a := rx
  refine getmeth_ok I1 ea c hm l ?_
  refine PySem.W.callWith_K (first := [.ref a]) (h₀ := X.base) I.ok.mod.kin hm.kp (thn (ha.run pos pins s1 σ H1 _ I1 q) fun us s2 ⟨vs, H2, I2, r, q2⟩ => ⟨I2.kIn, ?_⟩) hst hpl
  exact run_fnS (us := .ref a :: us) (vs := .ref a :: vs) F hr hb (hx σ) I2 (.cons rfl r) q2
theorem pe_meth0Z {pl : Sem Bool} (he : PE X o ta) (c : Cls X.K C) (hm : Meth X.K C m f) (F : FnOk X.prog X.w X.K X.mg X.base CX k f fd ps sp) (hr : Room k X.A) (hb : Binds X.K fd ps []) (hx : ∀ σ, PassesAt CX X σ (E σ))
    (ht : eval (.Call (.Attribute o m apos) [] [] pos) X.env = (do
      let ov ← eval o X.env
      standAt apos.atName
      let (f, first) ← holding [ov] (getMethod ov m pl)
      callWith pos f first (backTo pos (starEach [] X.env)) (backToKw pos (keywordEach [] X.env))) := by rfl) :
    PE X (.Call (.Attribute o m apos) [] [] pos) (tMethZ C m sp E ta tNil) := by
  refine ⟨fun pins s σ H Q I h => ?_⟩
  refine PySem.W.methodCall_KW (pl := pl) (thn (he.run pins s σ H _ I h) fun u s1 ⟨x, H1, I1, rx, a, dx, fs, ex, ea, l, q⟩ => ?_) ht
  subst ex
  obtain rfl : u = Value.ref a := rx
  refine getmeth_ok I1 ea c hm l ?_
  exact PySem.W.callWith_K0 (first := [.ref a]) I1.kIn hm.kp (run_fnS (us := [.ref a]) (vs := [.ref a]) F hr hb (hx σ) I1 (.cons rfl .nil) q)
end
end L2
namespace DL
open PySem L2 PyProof.Rows
open Classical
section
variable {X : Cx} {c : Ctx} {W : WX} {np : List Nat} {R : AS} {pn : List (Nat × V)} {σ : L2.St} {ρ : Env} {H H1 : Hp} {M M1 : AS} {pos : Pos}
def PostX (c : Ctx) (W : WX) (R : AS) (pn : List (Nat × V)) (σ : L2.St) (H : Hp) (M : AS) (Q : List V → Hp → Prop) : O (List Ag) → Prop
  | .no => False
  | .ok as ρ' => ∀ vs H' M', Good c R pn σ ρ' H' M' → AgR c σ (mask H' M') as vs → Fr R H M H' M' → Q vs H'
  | .ex k ρ' => ∀ H' M', Good c R pn σ ρ' H' M' → Fr R H M H' M' → W (.ref (c.ca k)) none σ H'
/-- arguments of an own def -/
def DX (X : Cx) (c : Ctx) (W : WX) (es : List Expr) (f : Env → O (List Ag)) : Prop := ∃ ta : TA, PA X es ta ∧ ∀ R pn σ ρ H M, Good c R pn σ ρ H M → ∀ Q, PostX c W R pn σ H M Q (f ρ) → ta σ H Q
def xNil : Env → O (List Ag) := fun ρ => .ok [] ρ
def xD (f : Env → O D) (g : Env → O (List Ag)) : Env → O (List Ag) := fun ρ => (f ρ).bind fun d ρ => (g ρ).bind fun as ρ => .ok (.d d :: as) ρ
def xIo (i : Nat) (g : Env → O (List Ag)) : Env → O (List Ag) := fun ρ => match ρ[i]? with
  | some (some _) => (g ρ).bind fun as ρ => .ok (.io i :: as) ρ
  | _ => .no
theorem dx_nil : DX X c W [] xNil := ⟨_, pa_nil, fun R pn σ ρ H M g Q q => q [] H M g rfl Fr.refl⟩
theorem dx_d {e : Expr} {es : List Expr} {f : Env → O D} {g : Env → O (List Ag)} (h1 : DD X c W e f) (h2 : DX X c W es g) (hs : starEach (e :: es) X.env = (false, eval e X.env) :: starEach es X.env := by rfl) : DX X c W (e :: es) (xD f g) := by
  obtain ⟨t1, p1, h1⟩ := h1
  obtain ⟨t2, p2, h2⟩ := h2
  refine ⟨_, pa_cons p1 p2 hs, fun R pn σ ρ H M g0 Q q => h1 R pn σ ρ H M g0 _ ?_⟩
  unfold xD at q
  cases o : f ρ with
  | no => rw [o] at q; exact q
  | ex k ρ' => rw [o] at q; exact q
  | ok d ρ1 =>
    rw [o] at q
    intro v H1 M1 g1 r1 fr1
    refine h2 R pn σ ρ1 H1 M1 g1 _ ?_
    dsimp only [O.bind] at q
    cases o2 : g ρ1 with
    | no => rw [o2] at q; exact q
    | ex k ρ' => rw [o2] at q; exact fun H' M' g' f' => q H' M' g' (fr1.trans f')
    | ok ds ρ2 =>
      rw [o2] at q
      exact fun vs H2 M2 g2 r2 fr2 => q (v :: vs) H2 M2 g2 ⟨v, vs, rfl, r1.mono fr2.rx _ _, r2⟩ (fr1.trans fr2)
theorem dx_io {i : Nat} {x : Str} {p : Pos} {es : List Expr} {g : Env → O (List Ag)} (h1 : PE X (.Name x p) (tVar i)) (h2 : DX X c W es g) (hs : starEach (.Name x p :: es) X.env = (false, eval (.Name x p) X.env) :: starEach es X.env := by rfl) : DX X c W (.Name x p :: es) (xIo i g) := by
  obtain ⟨t2, p2, h2⟩ := h2
  refine ⟨_, pa_cons h1 p2 hs, fun R pn σ ρ H M g0 Q q => ?_⟩
  unfold xIo at q
  split at q
  · rename_i s e
    obtain ⟨v, A, hv, _⟩ := g0.slot e
    refine ⟨v, hv, h2 R pn σ ρ H M g0 _ ?_⟩
    cases o2 : g ρ with
    | no => rw [o2] at q; exact q
    | ex k ρ' => rw [o2] at q; exact q
    | ok ds ρ2 =>
      rw [o2] at q
      exact fun vs H2 M2 g2 r2 fr2 => q (v :: vs) H2 M2 g2 ⟨v, vs, rfl, hv, r2⟩ fr2
  · exact q.elim
def xP (f : Env → Option (List D)) : Env → O (List Ag) := fun ρ => .opt ρ ((f ρ).map fun ds => ds.map .d)
theorem DPA.dx {es : List Expr} {f : Env → Option (List D)} (h : DPA X c es f) : DX X c W es (xP f) := by
  obtain ⟨ta, pa, h⟩ := h
  refine ⟨_, pa, fun R pn σ ρ H M g0 Q q => ?_⟩
  unfold xP at q
  cases o : f ρ with
  | none => rw [o] at q; exact q.elim
  | some ds =>
    rw [o] at q
    refine h R pn σ ρ H M g0 ds o Q fun vs H' k t => q vs H' M (g0.gro k) ?_ (Fr.gro g0 k)
    clear q
    have go : ∀ (ds : List D) (vs : List V), TRs c.K (mask H' M) ds vs → AgR c σ (mask H' M) (ds.map .d) vs := by
      intro ds
      induction ds with
      | nil => intro vs t; rw [TRs] at t; exact t
      | cons d ds ih => intro vs t; rw [TRs] at t; obtain ⟨v, r, e, t1, t2⟩ := t; exact ⟨v, r, e, t1, ih r t2⟩
    exact go ds vs t
/-- the arguments, then the call -/
def fCall (ios : List Nat) (F : List S → O S) (f : Env → O (List Ag)) : Env → O S := fun ρ => (f ρ).bind fun as ρ => callF ios F as ρ
theorem args_call {ios : List Nat} {n : Nat} {F : List S → O S} {f : Env → O (List Ag)} {ta : TA} (hn : ∀ as ρ ρ', f ρ = .ok as ρ' → as.length = n) (h : ∀ R pn σ ρ H M, Good c R pn σ ρ H M → ∀ Q, PostX c W R pn σ H M Q (f ρ) → ta σ H Q)
    (g0 : Good c R pn σ ρ H M) {Q : VK} (q : PostE c W R pn σ H M Q (fCall ios F f ρ)) : ta σ H fun vs H1 => spF c n ios F vs H1 Q (fun cls d H' => W cls d σ H') := by
  refine h R pn σ ρ H M g0 _ ?_
  unfold fCall at q
  cases o : f ρ with
  | no => rw [o] at q; exact q
  | ex k ρ' => rw [o] at q; exact q
  | ok as ρ1 =>
    rw [o] at q
    intro vs H1 M1 g1 ar fr
    have := call_read g1 ar (PostE.after q fr)
    rw [hn as ρ ρ1 o] at this
    exact this
theorem de_call {ios : List Nat} {F : List S → O S} {k : Nat} {g : Addr} {fd : FuncData} {ps : List Str} {x : Str} {p : Pos} {e : Expr} {es : List Expr} {f : Env → O (List Ag)} (G : FnOk X.prog X.w X.K X.mg X.base (L2.CX X.prog X.w) k g fd ps (spF c ps.length ios F)) (tk : Takes X W) (hr : Room k X.A) (hg : Gl X x)
    (hm : X.mg x = some (.ref g)) (hk : PySem.W.keepIn X.K (.ref g) = true) (hb : Binds X.K fd ps []) (ha : DX X c W (e :: es) f) (hn : ∀ as ρ ρ', f ρ = .ok as ρ' → as.length = ps.length)
    (hdb : (x == ("__debug__" : Str)) = false := by decide) (he : starEach (e :: es) X.env = (false, eval e X.env) :: starEach es X.env := by rfl) (hpl : (backTo pos (starEach es X.env)).any (·.1) = false := by rfl) : DE X c W (.Call (.Name x p) (e :: es) [] pos) (fCall ios F f) := by
  obtain ⟨ta, pa, h⟩ := ha
  exact ⟨_, pe_callS G hr hg hm hk hb (fun σ => passAt tk σ) pa hdb he hpl, fun R pn σ ρ H M g0 Q q => args_call hn h g0 q⟩
theorem de_call0 {ios : List Nat} {F : List S → O S} {k : Nat} {g : Addr} {fd : FuncData} {ps : List Str} {x : Str} {p : Pos} (G : FnOk X.prog X.w X.K X.mg X.base (L2.CX X.prog X.w) k g fd ps (spF c ps.length ios F)) (tk : Takes X W) (hr : Room k X.A) (hg : Gl X x)
    (hm : X.mg x = some (.ref g)) (hk : PySem.W.keepIn X.K (.ref g) = true) (hb : Binds X.K fd ps []) (hn : ps.length = 0)
    (hdb : (x == ("__debug__" : Str)) = false := by decide) : DE X c W (.Call (.Name x p) [] [] pos) (fCall ios F xNil) := by
  refine ⟨_, pe_call0Z G hr hg hm hk hb (fun σ => passAt tk σ) hdb, fun R pn σ ρ H M g0 Q q => args_call (f := xNil) (ta := tNil) (fun as ρ ρ' e => ?_) (fun R pn σ ρ H M g Q q => q [] H M g rfl Fr.refl) g0 q⟩
  cases e; exact hn.symm
/-- a method of the instance that a name holds -/
def fMeth (i : Nat) (k m : Str) (ios : List Nat) (F : List S → O S) (f : Env → O (List Ag)) : Env → O S := fun ρ => match ρ[i]? with
  | some (some (.ins k' ns _)) => if k' = k ∧ m ∉ ns then (f ρ).bind fun as ρ => callF ios F (.io i :: as) ρ else .no
  | _ => .no
theorem zip_none {m : Str} : ∀ {ns : List Str} {vs : List V}, m ∉ ns → (ns.zip vs).lookup m = none
  | [], vs, _ => rfl
  | n :: ns, [], _ => rfl
  | n :: ns, v :: vs, h => by
    rw [List.mem_cons, not_or] at h
    rw [List.zip_cons_cons, List.lookup_cons, show (m == n) = false by simpa using h.1]
    exact zip_none h.2
theorem meth_read {i : Nat} {k m : Str} {ios : List Nat} {n : Nat} {F : List S → O S} {f : Env → O (List Ag)} {ta : TA} (hn : ∀ as ρ ρ', f ρ = .ok as ρ' → as.length + 1 = n) (h : ∀ R pn σ ρ H M, Good c R pn σ ρ H M → ∀ Q, PostX c W R pn σ H M Q (f ρ) → ta σ H Q)
    (g0 : Good c R pn σ ρ H M) {Q : VK} (q : PostE c W R pn σ H M Q (fMeth i k m ios F f ρ)) : tMethZ (c.ca k) m (spF c n ios F) (WE W) (tVar i) ta σ H Q := by
  unfold fMeth at q
  split at q
  · rename_i k' ns ss e
    split at q
    · rename_i hk
      obtain ⟨v, A, hv, r, _⟩ := g0.slot e
      rw [OR] at r
      obtain ⟨a, dx, vs, B, rfl, ha, _⟩ := r
      rw [hk.1] at ha
      refine ⟨_, hv, a, dx, _, rfl, ha, zip_none hk.2, h R pn σ ρ H M g0 _ ?_⟩
      cases o : f ρ with
      | no => rw [o] at q; exact q
      | ex k ρ' => rw [o] at q; exact q
      | ok as ρ1 =>
        rw [o] at q
        intro ws H1 M1 g1 ar fr
        have := call_read (as := .io i :: as) (vs := .ref a :: ws) g1 ⟨_, _, rfl, hv, ar⟩ (PostE.after q fr)
        rw [List.length_cons, hn as ρ ρ1 o] at this
        exact this
    · exact q.elim
  · exact q.elim
theorem de_meth {pl : Sem Bool} {i : Nat} {k m : Str} {ios : List Nat} {F : List S → O S} {j : Nat} {g : Addr} {fd : FuncData} {ps : List Str} {x : Str} {p apos : Pos} {e : Expr} {es : List Expr} {f : Env → O (List Ag)} (hv : PE X (.Name x p) (tVar i)) (hC : Cls X.K (c.ca k)) (hM : Meth X.K (c.ca k) m g) (G : FnOk X.prog X.w X.K X.mg X.base (L2.CX X.prog X.w) j g fd ps (spF c ps.length ios F)) (tk : Takes X W) (hr : Room j X.A)
    (hb : Binds X.K fd ps []) (ha : DX X c W (e :: es) f) (hn : ∀ as ρ ρ', f ρ = .ok as ρ' → as.length + 1 = ps.length)
    (hst : starEach (e :: es) X.env = (false, eval e X.env) :: starEach es X.env := by rfl) (hpl : (backTo pos (starEach es X.env)).any (·.1) = false := by rfl)
    (ht : eval (.Call (.Attribute (.Name x p) m apos) (e :: es) [] pos) X.env = (do
      let ov ← eval (.Name x p) X.env
      standAt apos.atName
      let (f, first) ← holding [ov] (getMethod ov m pl)
      callWith pos f first (backTo pos (starEach (e :: es) X.env)) (backToKw pos (keywordEach [] X.env))) := by rfl) :
    DE X c W (.Call (.Attribute (.Name x p) m apos) (e :: es) [] pos) (fMeth i k m ios F f) := by
  obtain ⟨ta, pa, h⟩ := ha
  exact ⟨_, pe_methZ hv hC hM G hr hb (fun σ => passAt tk σ) pa hst hpl ht, fun R pn σ ρ H M g0 Q q => meth_read hn h g0 q⟩
theorem de_meth0 {pl : Sem Bool} {i : Nat} {k m : Str} {ios : List Nat} {F : List S → O S} {j : Nat} {g : Addr} {fd : FuncData} {ps : List Str} {x : Str} {p apos : Pos} (hv : PE X (.Name x p) (tVar i)) (hC : Cls X.K (c.ca k)) (hM : Meth X.K (c.ca k) m g) (G : FnOk X.prog X.w X.K X.mg X.base (L2.CX X.prog X.w) j g fd ps (spF c ps.length ios F)) (tk : Takes X W) (hr : Room j X.A)
    (hb : Binds X.K fd ps []) (hn : ps.length = 1)
    (ht : eval (.Call (.Attribute (.Name x p) m apos) [] [] pos) X.env = (do
      let ov ← eval (.Name x p) X.env
      standAt apos.atName
      let (f, first) ← holding [ov] (getMethod ov m pl)
      callWith pos f first (backTo pos (starEach [] X.env)) (backToKw pos (keywordEach [] X.env))) := by rfl) :
    DE X c W (.Call (.Attribute (.Name x p) m apos) [] [] pos) (fMeth i k m ios F xNil) := by
  refine ⟨_, pe_meth0Z hv hC hM G hr hb (fun σ => passAt tk σ) ht, fun R pn σ ρ H M g0 Q q => meth_read (f := xNil) (ta := tNil) (fun as ρ ρ' e => ?_) (fun R pn σ ρ H M g Q q => q [] H M g rfl Fr.refl) g0 q⟩
  cases e; exact hn.symm
/-- an instance made -/
def fMake (k : Str) (F : List S → O S) (f : Env → Option (List D)) : Env → O S := fun ρ => match f ρ with
  | some ds => match F (.ins k [] [] :: ds.map .dat) with
    | .ok (.dat .non) (some s :: _) => .ok s ρ
    | _ => .no
  | none => .no
theorem make_read {k : Str} {F : List S → O S} {n : Nat} {ds : List D} {vs : List V} {Q : VK} (hl : vs.length + 1 = n) (g : Good c R pn σ ρ H M) (t : TRs c.K (mask H M) ds vs)
    (q : PostE c W R pn σ H M Q (match F (.ins k [] [] :: ds.map .dat) with
      | .ok (.dat .non) (some s :: _) => .ok s ρ
      | _ => .no)) : ∀ x dx, H x = none → H dx = none → dx ≠ x → spF c n [0] F (.ref x :: (vs ++ [])) (upd (upd H dx (.own x)) x (.ins (c.ca k) dx [])) (fun v H2 => v = .non ∧ Q (.ref x) H2) E0 := by
  intro x dx hx hdx ne
  rw [List.append_nil]
  refine ⟨by simpa using hl, ?_⟩
  have g1 := g.new (o := .own x) hdx
  have hx1 : (upd H dx (.own x)) x = none := by rw [upd_ne (Ne.symm ne)]; exact hx
  have g2 := g1.newM (o := .ins (c.ca k) dx []) hx1
  have k0 : Gro H (upd (upd H dx (.own x)) x (.ins (c.ca k) dx [])) := (Gro.new hdx).trans (Gro.new hx1)
  have rx0 : Gro (mask H M) (mask (upd (upd H dx (.own x)) x (.ins (c.ca k) dx [])) (un M fun a => a = x)) := (gro_new hdx).trans (gro_newM hx1)
  have gc : Good c M (pinsOf [0] (.ref x :: vs)) ((V.ref x :: vs).map some) ((S.ins k [] [] :: ds.map .dat).map some) (upd (upd H dx (.own x)) x (.ins (c.ca k) dx [])) (un M fun a => a = x) := by
    refine ⟨by simp [t.len], ⟨fun j a => j = 0 ∧ a = x, fun j s e => ?_, fun i j a h1 h2 => by rw [h1.1, h2.1], fun j a h => ⟨.inr h.2, fun z => by rw [h.2] at z; exact g.trk x z hx⟩⟩, fun a h => .inl h, g2.trk, fun p hp => ?_⟩
    · cases j with
      | zero =>
        simp at e; subst e
        refine ⟨.ref x, rfl, ?_⟩
        rw [OR]
        exact ⟨x, dx, [], fun _ => False, rfl, upd_same, rfl, ⟨rfl, rfl⟩, fun z => z, fun _ z => z.elim, by rw [ORs]⟩
      | succ j =>
        simp at e
        obtain ⟨d, hd, rfl⟩ := e
        obtain ⟨v, hv, tv⟩ := t.get hd
        exact ⟨v, by simpa using hv, or_dat (tv.mono rx0.rx _ _)⟩
    · obtain ⟨h1, h2⟩ := mem_pinsOf hp
      simp at h1
      rw [h1] at h2 ⊢
      simpa using h2
  refine ⟨M, _, _, gc, ?_⟩
  cases hF : F (.ins k [] [] :: ds.map .dat) with
  | no => rw [hF] at q; exact q.elim
  | ex e ρ' => rw [hF] at q; exact q.elim
  | ok s ρ' =>
    rw [hF] at q
    split at q
    · rename_i s' rest e
      cases e
      intro v σ' H' M' B g' dB r fr
      rw [OR, TR] at r
      refine ⟨r, ?_⟩
      obtain ⟨w, A, hw, rw', dA, mA, g3⟩ := g'.slot (i := 0) (s := s') rfl
      have hp := g'.pin (0, .ref x) (pinsOf_mem (by simp) rfl)
      rw [hw] at hp
      cases hp
      refine q (.ref x) H' M' A ?_ (fun a ha hR => dA a ha (.inl (g.sub a hR))) rw' ⟨fun a ha => ?_, rx0.trans fr.gr⟩
      · refine Good.other (A := fun _ => False) (g.anti fun a h => h.elim id False.elim) (fun a ha _ => ⟨?_, g'.sub a (.inl ha)⟩) (rx0.trans fr.gr).rx g'.trk (fun _ z => z.elim) mA (fun a ha hm => dA a ha (.inl hm))
        rw [fr.keep a ha]
        cases z : H a with
        | none => exact absurd z (g.trk a ha)
        | some o => exact k0 a o z
      · rw [fr.keep a (g.sub a ha)]
        cases z : H a with
        | none => exact absurd z (g.trk a (g.sub a ha))
        | some o => exact k0 a o z
    · exact q.elim
theorem de_make {k : Str} {F : List S → O S} {j : Nat} {g : Addr} {fd : FuncData} {ps : List Str} {x : Str} {p : Pos} {e : Expr} {es : List Expr} {f : Env → Option (List D)} (MK : Mk X.K (c.ca k) g) (G : FnOk X.prog X.w X.K X.mg X.base (L2.CX X.prog X.w) j g fd ps (spF c ps.length [0] F)) (hr : Room (j + 1) X.A) (hg : Gl X x) (hm : X.mg x = some (.ref (c.ca k))) (hb : Binds X.K fd ps [])
    (ha : DPA X c (e :: es) f) (hn : ∀ ds ρ, f ρ = some ds → ds.length + 1 = ps.length) (hdb : (x == ("__debug__" : Str)) = false := by decide) (he : starEach (e :: es) X.env = (false, eval e X.env) :: starEach es X.env := by rfl) (hpl : (backTo pos (starEach es X.env)).any (·.1) = false := by rfl) :
    DE X c W (.Call (.Name x p) (e :: es) [] pos) (fMake k F f) := by
  obtain ⟨ta, pa, h⟩ := ha
  refine ⟨_, pe_make MK G hr hg hm hb .nil passL pa hdb he hpl, fun R pn σ ρ H M g0 Q q => ?_⟩
  unfold fMake at q
  split at q
  · rename_i ds o
    exact h R pn σ ρ H M g0 ds o _ fun vs H1 k1 t => make_read (by rw [← t.len]; exact hn ds ρ o) (g0.gro k1) t (PostE.after q (Fr.gro g0 k1))
  · exact q.elim
theorem de_make0 {k : Str} {F : List S → O S} {j : Nat} {g : Addr} {fd : FuncData} {ps : List Str} {x : Str} {p : Pos} (MK : Mk X.K (c.ca k) g) (G : FnOk X.prog X.w X.K X.mg X.base (L2.CX X.prog X.w) j g fd ps (spF c ps.length [0] F)) (hr : Room (j + 1) X.A) (hg : Gl X x) (hm : X.mg x = some (.ref (c.ca k))) (hb : Binds X.K fd ps [])
    (hn : ps.length = 1) (hdb : (x == ("__debug__" : Str)) = false := by decide) : DE X c W (.Call (.Name x p) [] [] pos) (fMake k F gNil) :=
  ⟨_, pe_make0 MK G hr hg hm hb .nil passL hdb, fun R pn σ ρ H M g0 Q q => make_read (vs := []) (ds := []) (by rw [hn]; rfl) g0 trs_nil q⟩

/-! ### raise -/
def sRaise (k : Str) : Env → O Fl := fun ρ => .ex k ρ
theorem ds_raise {k x m : Str} {j : Nat} {p p2 p3 : Pos} {bmB : List Value} {B newId initId : String} (hc : X.calm = true) (tk : Takes X W) (F : ExcBaseFacts B newId initId bmB) (q : PySem.W.excIn X.K (c.ca k) bmB newId = true) (gC : X.mg x = some (.ref (c.ca k))) (kC : PySem.W.keepIn X.K (.ref (c.ca k)) = true) (r : Raises X (.ref (c.ca k))) (hg : Gl X x)
    (hdb : (x == ("__debug__" : Str)) = false := by decide) : DSt X c W np (.Raise (some (.Call (.Name x p) [.Constant (.str m) j p2] [] p3)) none pos) (sRaise k) :=
  ⟨_, ps_raise hc tk (pmk_own F q gC kC r hg hdb), fun R pn σ ρ H M hn g D q => q σ H M g Fr.refl⟩

/-! ### fields stored -/
def putN (f : Str) : List Str → List Str
  | [] => [f]
  | n :: ns => if n = f then n :: ns else n :: putN f ns
def putL {α : Type} (f : Str) (s : α) : List Str → List α → List α
  | n :: ns, t :: ts => if n = f then s :: ts else t :: putL f s ns ts
  | _, _ => [s]
theorem put_zip {f : Str} {v : V} : ∀ {ns : List Str} {vs : List V}, vs.length = ns.length → putF f v (ns.zip vs) = (putN f ns).zip (putL f v ns vs)
  | [], [], _ => rfl
  | n :: ns, v' :: vs, h => by
    rw [List.zip_cons_cons, putF, putN, putL]
    split
    · rfl
    · rw [put_zip (by simpa using h)]; rfl
  | [], v :: vs, h => by simp at h
  | n :: ns, [], h => by simp at h
theorem putL_len {α : Type} {f : Str} {v : α} : ∀ {ns : List Str} {vs : List α}, vs.length = ns.length → (putL f v ns vs).length = (putN f ns).length
  | [], [], _ => rfl
  | n :: ns, v' :: vs, h => by
    rw [putN, putL]
    split
    · simpa using h
    · simpa using putL_len (by simpa using h)
  | [], v :: vs, h => by simp at h
  | n :: ns, [], h => by simp at h
theorem ors_put {Hd H : Hp} {f : Str} {s : S} {v : V} {A : AS} (r : OR c Hd H s v A) : ∀ {ns : List Str} {ss : List S} {vs : List V} {B : AS}, ss.length = ns.length → ORs c Hd H ss vs B → (∀ a, A a → ¬ B a) → ORs c Hd H (putL f s ns ss) (putL f v ns vs) (un A B)
  | [], [], vs, B, _, h, dj => by
    rw [ORs] at h; subst h
    show ORs c Hd H [s] [v] (un A B)
    rw [ORs]
    exact ⟨v, [], A, fun _ => False, rfl, r, by rw [ORs], fun _ _ z => z, fun _ h => .inl h, fun _ z => z.elim⟩
  | n :: ns, t :: ss, vs, B, hl, h, dj => by
    rw [ORs] at h; obtain ⟨u, q, A1, A2, rfl, o1, o2, d, s1, s2⟩ := h
    rw [putL, putL]
    by_cases hf : n = f
    · rw [if_pos hf, if_pos hf, ORs]
      exact ⟨v, q, A, A2, rfl, r, o2, fun a h1 h2 => dj a h1 (s2 a h2), fun _ h => .inl h, fun a h => .inr (s2 a h)⟩
    · rw [if_neg hf, if_neg hf, ORs]
      refine ⟨u, _, A1, un A A2, rfl, o1, ors_put r (by simpa using hl) o2 fun a h1 h2 => dj a h1 (s2 a h2), fun a h1 h2 => ?_, fun a h => .inr (s1 a h), fun a h => h.imp id (s2 a)⟩
      rcases h2 with h2 | h2
      · exact dj a h2 (s1 a h1)
      · exact d a h1 h2
  | [], t :: ss, vs, B, hl, _, _ => by simp at hl
  | n :: ns, [], vs, B, hl, _, _ => by simp at hl
def sFldP (i : Nat) (k f : Str) (g : Env → O S) : Env → O Fl := fun ρ => (g ρ).bind fun s ρ => match ρ[i]? with
  | some (some (.ins k' ns ss)) => if k' = k ∧ ns.length < 1000 ∧ ss.length = ns.length then .ok .nx (ρ.set i (some (.ins k (putN f ns) (putL f s ns ss)))) else .no
  | _ => .no
theorem ds_fld {i : Nat} {k f x : Str} {e : Expr} {g : Env → O S} {p pos' : Pos} (hv : PE X (.Name x p) (tVar i)) (hC : Cls X.K (c.ca k)) (hN : NoAttr X.K (c.ca k) f) (he : DE X c W e g) (hs : swapsWith e (some (.Attribute (.Name x p) f pos')) pos.line X.env = pure false := by rfl) :
    DSt X c W np (.Assign [.Attribute (.Name x p) f pos'] e pos) (sFldP i k f g) := by
  obtain ⟨te, pe, he⟩ := he
  refine ⟨_, ps_fld hv pe hs, fun R pn σ ρ H M hn g0 D q => he R pn σ ρ H M g0 _ ?_⟩
  unfold sFldP at q
  cases o : g ρ with
  | no => rw [o] at q; exact q
  | ex k ρ' => rw [o] at q; exact fun H' M' g' fr => q σ H' M' g' fr
  | ok s ρ1 =>
    rw [o] at q
    intro v H1 M1 A g1 dA r fr
    dsimp only [O.bind] at q
    split at q
    · rename_i k' ns ss e1
      split at q
      · rename_i hk
        obtain ⟨w, B, hw, rw', dB, mB, g2⟩ := g1.slot e1
        have rr := rw'
        rw [OR] at rr
        obtain ⟨a, dx, vs, B', rfl, ha, hl, hB, nB, sB, ro⟩ := rr
        rw [hk.1] at ha
        refine ⟨_, hw, a, _, dx, _, rfl, ha, hC, hN, by rw [List.length_zip, hl]; simpa using hk.2.1, ?_⟩
        rw [put_zip hl]
        have nA : ¬ A a := fun z => dB a hB (.inr z)
        have g3 : Good c (un (un R A) B) pn σ (ρ1.set i none) (upd H1 a (.ins (c.ca k) dx ((putN f ns).zip (putL f v ns vs)))) M1 := g2.write (.inr hB)
        have hm : mask (upd H1 a (.ins (c.ca k) dx ((putN f ns).zip (putL f v ns vs)))) M1 = mask H1 M1 := mask_upd (mB a hB)
        refine q σ _ M1 (Good.back (A := un A B) (g3.anti fun b h => ?_) hw ?_ fun b h z => ?_) (fr.trans (Fr.write (fun z => dB a hB (.inl z)) (mB a hB)))
        · rcases h with h | h | h
          · exact .inl (.inl h)
          · exact .inl (.inr h)
          · exact .inr h
        · rw [hm, OR]
          refine ⟨a, dx, _, un A B', rfl, upd_same, by rw [putL_len hl], .inr hB, fun z => z.elim nA nB, fun b h => h.imp id (sB b), ?_⟩
          have ro' : ORs c (mask H1 M1) (upd H1 a (.ins (c.ca k) dx ((putN f ns).zip (putL f v ns vs)))) ss vs B' := ORs.frame (Rx.refl _) _ _ _ (fun b hb => upd_ne fun z => nB (by rw [← z]; exact hb)) ro
          have r' : OR c (mask H1 M1) (upd H1 a (.ins (c.ca k) dx ((putN f ns).zip (putL f v ns vs)))) s v A := OR.frame (Rx.refl _) _ _ _ (fun b hb => upd_ne fun z => nA (by rw [← z]; exact hb)) r
          exact ors_put r' hk.2.2 ro' fun b h1 h2 => dB b (sB b h2) (.inr h1)
        · rcases h with h | h
          · exact dA b h z
          · exact dB b h (.inl z)
      · exact q.elim
    · exact q.elim
end
end DL

/-! DL9: lists and dicts changed in their place. -/
namespace DL
open PySem L2 PyProof.Rows
open Classical
section
variable {X : Cx} {c : Ctx} {W : WX} {np : List Nat} {R : AS} {pn : List (Nat × V)} {σ : L2.St} {ρ : Env} {H H1 : Hp} {M M1 : AS} {pos : Pos} {i : Nat}
theorem ors_mod {Hd H : Hp} {f : Str} : ∀ {ns : List Str} {ss : List S} {vs : List V} {B : AS} {t : S}, ss.length = ns.length → ORs c Hd H ss vs B → lookS f ns ss = some t →
    ∃ v A, (ns.zip vs).lookup f = some v ∧ OR c Hd H t v A ∧ (∀ a, A a → B a) ∧ ∀ (H' : Hp) (t' : S), (∀ a, B a → ¬ A a → H' a = H a) → OR c Hd H' t' v A → ORs c Hd H' (putL f t' ns ss) vs B
  | [], ss, vs, B, t, _, _, e => by cases ss <;> simp [lookS] at e
  | n :: ns, [], vs, B, t, _, _, e => by simp [lookS] at e
  | n :: ns, x :: ss, vs, B, t, hl, h, e => by
    rw [ORs] at h; obtain ⟨v, r, A1, A2, rfl, y, z, dj, s1, s2⟩ := h
    rw [lookS] at e
    by_cases hf : f = n
    · rw [if_pos hf] at e; cases e
      refine ⟨v, A1, by simp [List.zip_cons_cons, List.lookup, hf], y, s1, fun H' t' k o => ?_⟩
      rw [putL, if_pos hf.symm, ORs]
      exact ⟨v, r, A1, A2, rfl, o, ORs.frame (Rx.refl _) _ _ _ (fun a ha => k a (s2 a ha) fun h1 => dj a h1 ha) z, dj, s1, s2⟩
    · rw [if_neg hf] at e
      obtain ⟨u, A, h1, h2, h3, h4⟩ := ors_mod (by simpa using hl) z e
      have : (f == n) = false := by simpa using hf
      refine ⟨u, A, by rw [List.zip_cons_cons, List.lookup_cons, this]; exact h1, h2, fun a q => s2 a (h3 a q), fun H' t' k o => ?_⟩
      rw [putL, if_neg (fun q => hf q.symm), ORs]
      exact ⟨v, r, A1, A2, rfl, OR.frame (Rx.refl _) _ _ _ (fun a ha => k a (s1 a ha) fun h5 => dj a ha (h3 a h5)) y, h4 H' t' (fun a ha n => k a (s2 a ha) n) o, dj, s1, s2⟩
/-- a name's object is changed in its place; A2: what the new tree owns besides -/
theorem Good.nmod {A2 : AS} {t : S} (g : Good c (DL.un R A2) pn σ ρ H M) (d2 : ∀ a, A2 a → ¬ R a) (e : ρ[i]? = some (some t)) : ∃ v A, σ[i]? = some (some v) ∧ OR c (mask H M) H t v A ∧ (∀ a, A a → M a) ∧ (∀ a, A a → ¬ A2 a) ∧
    ∀ (l : Addr) (o : HO) (t' : S), A l → OR c (mask H M) (upd H l o) t' v (DL.un A A2) → Good c R pn σ (ρ.set i (some t')) (upd H l o) M ∧ Fr R H M (upd H l o) M := by
  obtain ⟨v, A, hv, r, dA, mA, g'⟩ := g.slot e
  refine ⟨v, A, hv, r, mA, fun a h z => dA a h (.inr z), fun l o t' hl r' => ⟨?_, Fr.write (fun z => dA l hl (.inl z)) (mA l hl)⟩⟩
  have g3 := g'.write (o := o) (a := l) (.inr hl)
  refine Good.back (A := DL.un A A2) (g3.anti fun b h => ?_) hv (by rw [mask_upd (mA l hl)]; exact r') fun b h z => ?_
  · rcases h with h | h | h
    · exact .inl (.inl h)
    · exact .inr h
    · exact .inl (.inr h)
  · rcases h with h | h
    · exact dA b h (.inl z)
    · exact d2 b h z
/-- .. the object that a field of a name's instance holds -/
theorem Good.fmod {k f : Str} {ns : List Str} {ss : List S} {t : S} (g : Good c R pn σ ρ H M) (e : ρ[i]? = some (some (.ins k ns ss))) (hl : ss.length = ns.length) (el : lookS f ns ss = some t) :
    ∃ a dx vs v A, σ[i]? = some (some (.ref a)) ∧ H a = some (.ins (c.ca k) dx (ns.zip vs)) ∧ vs.length = ns.length ∧ (ns.zip vs).lookup f = some v ∧ OR c (mask H M) H t v A ∧ (∀ a, A a → M a) ∧
    ∀ (l : Addr) (o : HO) (t' : S), A l → OR c (mask H M) (upd H l o) t' v A → Good c R pn σ (ρ.set i (some (.ins k ns (putL f t' ns ss)))) (upd H l o) M ∧ Fr R H M (upd H l o) M := by
  obtain ⟨v, A, hv, r, dA, mA, g'⟩ := g.slot e
  rw [OR] at r
  obtain ⟨a, dx, vs, B, rfl, ha, hvl, hA, nB, sB, ro⟩ := r
  obtain ⟨u, A', h1, h2, h3, h4⟩ := ors_mod hl ro el
  refine ⟨a, dx, vs, u, A', hv, ha, hvl, h1, h2, fun b h => mA b (sB b (h3 b h)), fun l o t' hl' r' => ⟨?_, Fr.write (fun z => dA l (sB l (h3 l hl')) z) (mA l (sB l (h3 l hl')))⟩⟩
  have lA := sB l (h3 l hl')
  have g3 := g'.write (o := o) (a := l) (.inr lA)
  have ne : a ≠ l := fun z => nB (by rw [z]; exact h3 l hl')
  refine Good.back g3 hv ?_ dA
  rw [mask_upd (mA l lA), OR]
  exact ⟨a, dx, vs, B, rfl, by rw [upd_ne ne]; exact ha, hvl, hA, nB, sB, h4 _ _ (fun b hb nA => upd_ne fun z => nA (by rw [z]; exact hl')) r'⟩
theorem ors_append {Hd H : Hp} {s : S} {v : V} {A2 : AS} (r : OR c Hd H s v A2) : ∀ {ss : List S} {vs : List V} {B : AS}, ORs c Hd H ss vs B → (∀ a, B a → ¬ A2 a) → ORs c Hd H (ss ++ [s]) (vs ++ [v]) (un B A2)
  | [], vs, B, h, dj => by
    rw [ORs] at h; subst h
    show ORs c Hd H [s] [v] _
    rw [ORs]
    exact ⟨v, [], A2, fun _ => False, rfl, r, by rw [ORs], fun _ _ z => z, fun _ h => .inr h, fun _ z => z.elim⟩
  | x :: ss, vs, B, h, dj => by
    rw [ORs] at h; obtain ⟨u, q, A1, A3, rfl, y, z, d, s1, s2⟩ := h
    show ORs c Hd H (x :: (ss ++ [s])) (u :: (q ++ [v])) _
    rw [ORs]
    refine ⟨u, _, A1, un A3 A2, rfl, y, ors_append r z fun a h => dj a (s2 a h), fun a h1 h2 => ?_, fun a h => .inl (s1 a h), fun a h => h.imp (s2 a) id⟩
    rcases h2 with h2 | h2
    · exact d a h1 h2
    · exact dj a (s1 a h1) h2
/-! ### append -/
def sApp (i : Nat) (g : Env → O S) : Env → O Fl := fun ρ => match ρ[i]? with
  | some (some (.lst _)) => (g ρ).bind fun s ρ => match ρ[i]? with
    | some (some (.lst xs)) => if xs.length < sizeLine then .ok .nx (ρ.set i (some (.lst (xs ++ [s])))) else .no
    | _ => .no
  | _ => .no
theorem ds_app {x : Str} {e : Expr} {g : Env → O S} {p apos cpos : Pos} (hv : PE X (.Name x p) (tVar i)) (he : DE X c W e g)
    (hbase : attributeBase (.Name x p) "append" X.env (eval (.Name x p) X.env) = eval (.Name x p) X.env := by rfl)
    (hfew : ((backTo cpos (starEach (e :: []) X.env)).all (fun x => !x.1) && (backToKw cpos (keywordEach [] X.env)).all (fun x => x.1.isSome)
      && decide ((e :: []).length + ([] : List Keyword).length + (if ([] : List Keyword).isEmpty then 0 else 1) < 30)) = true := by rfl)
    (hline : (apos.endLine == cpos.line) = true := by rfl) (hs : starEach (e :: []) X.env = (false, eval e X.env) :: starEach [] X.env := by rfl) (hplain : (backTo cpos (starEach [] X.env)).any (·.1) = false := by rfl)
    (hsw : swapsWith (.Call (.Attribute (.Name x p) "append" apos) [e] [] cpos) none pos.line X.env = pure false := by rfl) :
    DSt X c W np (.Expr (.Call (.Attribute (.Name x p) "append" apos) [e] [] cpos) pos) (sApp i g) := by
  obtain ⟨te, pe, he⟩ := he
  refine ⟨_, ps_expr (pe_bm PySem.F.plainAttrs_list PySem.F.slot_list_append PySem.F.type_list_append mt_append hv (pa_cons pe pa_nil hs) hbase hfew hline hs hplain) hsw, fun R pn σ ρ H M hn g0 D q => ?_⟩
  unfold sApp at q
  split at q
  · rename_i ys e0
    obtain ⟨v, A, hv0, r0, _⟩ := g0.slot e0
    rw [OR] at r0
    obtain ⟨a, vs, B, rfl, ha, _⟩ := r0
    refine ⟨.ref a, hv0, .inl ⟨rfl, _, SqL.of ha⟩, he R pn σ ρ H M g0 _ ?_⟩
    cases o : g ρ with
    | no => rw [o] at q; exact q
    | ex k ρ' => rw [o] at q; exact fun H' M' g' fr => q σ H' M' g' fr
    | ok s ρ1 =>
      rw [o] at q
      intro u H1 M1 A2 g1 d2 r2 fr
      dsimp only [O.bind] at q
      split at q
      · rename_i xs e1
        split at q
        · rename_i hl
          obtain ⟨w, A, hw, rw', mA, dA, k⟩ := g1.nmod d2 e1
          rw [hv0] at hw; cases hw
          have rr := rw'
          rw [OR] at rr
          obtain ⟨a', vs', B', ea, ha', hA, nB, sB, ro⟩ := rr
          cases ea
          refine ⟨a, vs', u, rfl, rfl, ha', by rw [← ro.len]; exact hl, ?_⟩
          obtain ⟨gg, ff⟩ := k a (.lst (vs' ++ [u])) (.lst (xs ++ [s])) hA (by
            rw [OR]
            refine ⟨a, _, un B' A2, rfl, upd_same, .inl hA, fun z => z.elim nB (dA a hA), fun b h => h.imp (sB b) id, ?_⟩
            refine ors_append (OR.frame (Rx.refl _) _ _ _ (fun b hb => upd_ne fun z => dA a hA (by rw [← z]; exact hb)) r2) (ORs.frame (Rx.refl _) _ _ _ (fun b hb => upd_ne fun z => nB (by rw [← z]; exact hb)) ro) fun b h => dA b (sB b h))
          exact q σ _ M1 gg (fr.trans ff)
        · exact q.elim
      · exact q.elim
  · exact q.elim
def sAppF (i : Nat) (k f : Str) (g : Env → Option D) : Env → O Fl := fun ρ => match ρ[i]?, g ρ with
  | some (some (.ins k' ns ss)), some d => match lookS f ns ss with
    | some (.lst xs) => if k' = k ∧ ss.length = ns.length ∧ xs.length < sizeLine then .ok .nx (ρ.set i (some (.ins k ns (putL f (.lst (xs ++ [.dat d])) ns ss)))) else .no
    | _ => .no
  | _, _ => .no
theorem ds_appF {k f x : Str} {e : Expr} {g : Env → Option D} {p fpos apos cpos : Pos} (hv : PE X (.Name x p) (tVar i)) (hC : Cls X.K (c.ca k)) (hN : NoAttr X.K (c.ca k) f) (he : DP X c e g) (hb : attributeBase (.Name x p) f X.env (eval (.Name x p) X.env) = eval (.Name x p) X.env := by rfl)
    (hbase : attributeBase (.Attribute (.Name x p) f fpos) "append" X.env (eval (.Attribute (.Name x p) f fpos) X.env) = eval (.Attribute (.Name x p) f fpos) X.env := by rfl)
    (hfew : ((backTo cpos (starEach (e :: []) X.env)).all (fun x => !x.1) && (backToKw cpos (keywordEach [] X.env)).all (fun x => x.1.isSome)
      && decide ((e :: []).length + ([] : List Keyword).length + (if ([] : List Keyword).isEmpty then 0 else 1) < 30)) = true := by rfl)
    (hline : (apos.endLine == cpos.line) = true := by rfl) (hs : starEach (e :: []) X.env = (false, eval e X.env) :: starEach [] X.env := by rfl) (hplain : (backTo cpos (starEach [] X.env)).any (·.1) = false := by rfl)
    (hsw : swapsWith (.Call (.Attribute (.Attribute (.Name x p) f fpos) "append" apos) [e] [] cpos) none pos.line X.env = pure false := by rfl) :
    DSt X c W np (.Expr (.Call (.Attribute (.Attribute (.Name x p) f fpos) "append" apos) [e] [] cpos) pos) (sAppF i k f g) := by
  obtain ⟨te, pe, he⟩ := he
  refine ⟨_, ps_expr (pe_bm PySem.F.plainAttrs_list PySem.F.slot_list_append PySem.F.type_list_append mt_append (pe_fld hv hb) (pa_cons pe pa_nil hs) hbase hfew hline hs hplain) hsw, fun R pn σ ρ H M hn g0 D q => ?_⟩
  unfold sAppF at q
  split at q
  · rename_i k' ns ss d e0 e1
    split at q
    · rename_i xs e2
      split at q
      · rename_i hk
        obtain ⟨hk1, hk2, hk3⟩ := hk
        subst hk1
        obtain ⟨a, dx, vs, v, A, hv0, ha, hvl, hlk, r, _⟩ := g0.fmod e0 hk2 e2
        rw [OR] at r
        obtain ⟨l, us, B, rfl, hl, _⟩ := r
        refine ⟨.ref a, hv0, a, _, dx, _, .ref l, rfl, ha, hC, hN, hlk, .inl ⟨rfl, _, SqL.of hl⟩, he R pn σ ρ H M g0 d e1 _ fun y H1 k1 ty => ?_⟩
        have g1 := g0.gro k1
        obtain ⟨a2, dx2, vs2, v2, A2, hv2, ha2, hvl2, hlk2, r2, mA, kk⟩ := g1.fmod e0 hk2 e2
        rw [hv0] at hv2; cases hv2
        have := k1 _ _ ha
        rw [ha2] at this
        injection this with this
        injection this with _ _ hz
        rw [hz] at hlk2
        rw [hlk] at hlk2; cases hlk2
        have rr := r2
        rw [OR] at rr
        obtain ⟨l2, us2, B2, el, hl2, hA, nB, sB, ro⟩ := rr
        cases el
        refine ⟨l, us2, y, rfl, rfl, hl2, by rw [← ro.len]; exact hk3, ?_⟩
        obtain ⟨gg, ff⟩ := kk l (.lst (us2 ++ [y])) (.lst (xs ++ [.dat d])) hA (by
          rw [OR]
          refine ⟨l, _, B2, rfl, upd_same, hA, nB, sB, ?_⟩
          have := ors_append (A2 := fun _ => False) (or_dat (H := upd H1 l (.lst (us2 ++ [y]))) ty) (ORs.frame (Rx.refl _) _ _ _ (fun b hb => upd_ne fun z => nB (by rw [← z]; exact hb)) ro) fun b h z => z
          exact ORs.wide _ _ _ _ (fun b h => h.elim id False.elim) this)
        exact q σ _ M gg ((Fr.gro g0 k1).trans ff)
      · exact q.elim
    · exact q.elim
  · exact q.elim
/-! ### xs[j] = e -/
def sIxP (i : Nat) (j : Env → Option D) (g : Env → O S) : Env → O Fl := fun ρ => (g ρ).bind fun s ρ => match ρ[i]?, j ρ with
  | some (some (.lst xs)), some (.int n) => match ixN xs.length n with
    | some m => .ok .nx (ρ.set i (some (.lst (xs.set m s))))
    | none => .no
  | _, _ => .no
theorem ors_set {Hd H : Hp} {s : S} {v : V} {A2 : AS} (r : OR c Hd H s v A2) : ∀ {ss : List S} {vs : List V} {B : AS} (m : Nat), ORs c Hd H ss vs B → (∀ a, B a → ¬ A2 a) → ORs c Hd H (ss.set m s) (vs.set m v) (un B A2)
  | [], vs, B, m, h, dj => by
    rw [ORs] at h; subst h
    simp only [List.set_nil]
    rw [ORs]
  | x :: ss, vs, B, 0, h, dj => by
    rw [ORs] at h; obtain ⟨u, q, A1, A3, rfl, y, z, d, s1, s2⟩ := h
    show ORs c Hd H (s :: ss) (v :: q) _
    rw [ORs]
    exact ⟨v, q, A2, A3, rfl, r, z, fun a h1 h2 => dj a (s2 a h2) h1, fun a h => .inr h, fun a h => .inl (s2 a h)⟩
  | x :: ss, vs, B, m + 1, h, dj => by
    rw [ORs] at h; obtain ⟨u, q, A1, A3, rfl, y, z, d, s1, s2⟩ := h
    show ORs c Hd H (x :: ss.set m s) (u :: q.set m v) _
    rw [ORs]
    refine ⟨u, _, A1, un A3 A2, rfl, y, ors_set r m z fun a h => dj a (s2 a h), fun a h1 h2 => ?_, fun a h => .inl (s1 a h), fun a h => h.imp (s2 a) id⟩
    rcases h2 with h2 | h2
    · exact d a h1 h2
    · exact dj a (s1 a h1) h2
theorem ds_ixP {x : Str} {ie e : Expr} {j : Env → Option D} {g : Env → O S} {p spos : Pos} (hv : PE X (.Name x p) (tVar i)) (hj : DP X c ie j) (he : DE X c W e g)
    (ha : ∀ v, assign (.Subscript (.Name x p) ie spos) X.env v = (do
      let ov ← holding [v] (eval (.Name x p) X.env)
      let iv ← holding [v, ov] (eval ie X.env)
      standAt spos
      holding [v, ov, iv] (setItem ov iv v)
      release [v, ov, iv] []) := by intro _; rfl)
    (hs : swapsWithSole [.Subscript (.Name x p) ie spos] e pos.line X.env = pure false := by rfl) (hw : swappedStores [.Subscript (.Name x p) ie spos] e X.env = pure none := by rfl)
    (h1 : (assignEach [.Subscript (.Name x p) ie spos] X.env).map (·.2) = [assign (.Subscript (.Name x p) ie spos) X.env] := by rfl) :
    DSt X c W np (.Assign [.Subscript (.Name x p) ie spos] e pos) (sIxP i j g) := by
  obtain ⟨te, pe, he⟩ := he
  obtain ⟨ti, pi, hj⟩ := hj
  refine ⟨_, ps_asg pe (pg_sub hv pi set_list ha) hs hw h1, fun R pn σ ρ H M hn g0 D q => he R pn σ ρ H M g0 _ ?_⟩
  unfold sIxP at q
  cases o : g ρ with
  | no => rw [o] at q; exact q
  | ex k ρ' => rw [o] at q; exact fun H' M' g' fr => q σ H' M' g' fr
  | ok s ρ1 =>
    rw [o] at q
    intro u H1 M1 A2 g1 d2 r2 fr
    dsimp only [O.bind] at q
    split at q
    · rename_i xs n e1 e2
      split at q
      · rename_i m em
        obtain ⟨v0, _, hv0, _⟩ := g1.slot e1
        refine ⟨v0, hv0, hj (un R A2) pn σ ρ1 H1 M1 g1 _ e2 _ fun w H2 k2 tw => ?_⟩
        have g2 := g1.gro k2
        obtain ⟨v, A, hv', rv, mA, dA, kk⟩ := g2.nmod d2 e1
        rw [hv0] at hv'; cases hv'
        rw [OR] at rv
        obtain ⟨a, vs, B, rfl, hl, hA, nB, sB, ro⟩ := rv
        rw [TR] at tw
        refine ⟨a, vs, n, m, rfl, tw, hl, by rw [← ro.len]; exact em, ?_⟩
        obtain ⟨gg, ff⟩ := kk a (.lst (vs.set m u)) (.lst (xs.set m s)) hA (by
          rw [OR]
          refine ⟨a, _, un B A2, rfl, upd_same, .inl hA, fun z => z.elim nB (dA a hA), fun b h => h.imp (sB b) id, ?_⟩
          exact ors_set (OR.frame (Rx.refl _) _ _ _ (fun b hb => upd_ne fun z => dA a hA (by rw [← z]; exact hb)) (OR.gro k2.mask.rx k2 _ _ _ r2)) m (ORs.frame (Rx.refl _) _ _ _ (fun b hb => upd_ne fun z => nB (by rw [← z]; exact hb)) ro) fun b h => dA b (sB b h))
        exact q σ _ M1 gg ((fr.trans (Fr.gro (g1.un) k2)).trans ff)
      · exact q.elim
    · exact q.elim
end
end DL

/-! DLa: the rest of the small rules. -/
namespace DL
open PySem L2 PyProof.Rows
open Classical
section
variable {X : Cx} {c : Ctx} {W : WX} {np : List Nat} {R : AS} {pn : List (Nat × V)} {σ : L2.St} {ρ : Env} {H H1 : Hp} {M M1 : AS} {pos : Pos} {i : Nat}
/-! ### -x -/
def gNeg (f : Env → Option D) : Env → Option D := fun ρ => match f ρ with
  | some (.int i) => some (.int (-i))
  | _ => none
theorem dp_neg {e : Expr} {f : Env → Option D} (h : DP X c e f) : DP X c (.UnaryOp .USub e pos) (gNeg f) := by
  obtain ⟨te, pe, h⟩ := h
  refine ⟨_, pe_un un_neg pe, fun R pn σ ρ H M g0 d e Q q => ?_⟩
  unfold gNeg at e; split at e
  · rename_i j o
    cases e
    exact h R pn σ ρ H M g0 _ o _ fun v H1 k t => ⟨j, by rw [TR] at t; exact t, q _ H1 k (by rw [TR])⟩
  · cases e
/-! ### expressions that are never come to -/
def gNo : Env → Option D := fun _ => none
theorem pe_never {e : Expr} : PE X e (fun _ _ _ => False) := ⟨fun _ _ _ _ _ _ h => h.elim⟩
theorem dp_never {e : Expr} : DP X c e gNo := ⟨_, pe_never, fun R pn σ ρ H M g0 d e Q q => nomatch e⟩
/-! ### what a field holds, laid open where it stands -/
def fMvF (i : Nat) (k f : Str) : Env → O D := fun ρ => match ρ[i]? with
  | some (some (.ins k' ns ss)) => match lookS f ns ss with
    | some s => match s.er with
      | some d => if k' = k ∧ ss.length = ns.length then .ok d (ρ.set i (some (.ins k ns (putL f (.dat d) ns ss)))) else .no
      | none => .no
    | none => .no
  | _ => .no
theorem ors_open {H : Hp} {f : Str} {M : AS} {s : S} {d : D} (hd : s.er = some d) : ∀ {ns : List Str} {ss : List S} {vs : List V} {B : AS}, ss.length = ns.length → ORs c (mask H M) H ss vs B → lookS f ns ss = some s →
    ∃ (v : V) (A : AS), (ns.zip vs).lookup f = some v ∧ (∀ a, A a → B a) ∧ TR c.K (mask H (fun a => M a ∧ ¬ A a)) d v ∧ ORs c (mask H (fun a => M a ∧ ¬ A a)) H (putL f (.dat d) ns ss) vs (fun a => B a ∧ ¬ A a)
  | [], ss, vs, B, _, _, e => by cases ss <;> simp [lookS] at e
  | n :: ns, [], vs, B, _, _, e => by simp [lookS] at e
  | n :: ns, x :: ss, vs, B, hl, h, e => by
    rw [ORs] at h; obtain ⟨v, r, A1, A2, rfl, y, z, dj, s1, s2⟩ := h
    rw [lookS] at e
    by_cases hf : f = n
    · rw [if_pos hf] at e; cases e
      have t := OR.data (M' := fun a => M a ∧ ¬ A1 a) (fun a h => h.1) _ v A1 d (fun a ha n => n.2 ha) y hd
      refine ⟨v, A1, by simp [List.zip_cons_cons, List.lookup, hf], s1, t, ?_⟩
      rw [putL, if_pos hf.symm, ORs]
      exact ⟨v, r, fun _ => False, A2, rfl, or_dat t, ORs.frame (Rx.unmask fun a h => h.1) _ _ _ (fun _ _ => rfl) z, fun _ z => z.elim, fun _ z => z.elim, fun a ha => ⟨s2 a ha, fun h1 => dj a h1 ha⟩⟩
    · rw [if_neg hf] at e
      obtain ⟨u, A, h1, h2, h3, h4⟩ := ors_open hd (by simpa using hl) z e
      have : (f == n) = false := by simpa using hf
      refine ⟨u, A, by rw [List.zip_cons_cons, List.lookup_cons, this]; exact h1, fun a q => s2 a (h2 a q), h3, ?_⟩
      rw [putL, if_neg (fun q => hf q.symm), ORs]
      exact ⟨v, r, A1, _, rfl, OR.frame (Rx.unmask fun a h => h.1) _ _ _ (fun _ _ => rfl) y, h4, fun a ha hb => dj a ha hb.1, fun a ha => ⟨s1 a ha, fun h5 => dj a ha (h2 a h5)⟩, fun a ha => ⟨s2 a ha.1, ha.2⟩⟩
theorem dd_mvF {k f x : Str} {p : Pos} (hv : PE X (.Name x p) (tVar i)) (hC : Cls X.K (c.ca k)) (hN : NoAttr X.K (c.ca k) f) (hb : attributeBase (.Name x p) f X.env (eval (.Name x p) X.env) = eval (.Name x p) X.env := by rfl) :
    DD X c W (.Attribute (.Name x p) f pos) (fMvF i k f) := by
  refine ⟨_, pe_fld hv hb, fun R pn σ ρ H M g0 Q q => ?_⟩
  unfold fMvF at q
  split at q
  · rename_i k' ns ss e
    split at q
    · rename_i s es
      split at q
      · rename_i d ed
        split at q
        · rename_i hk
          obtain ⟨hk1, hk2⟩ := hk
          subst hk1
          obtain ⟨w, A, hw, r, dA, mA, g1⟩ := g0.slot e
          rw [OR] at r
          obtain ⟨a, dx, vs, B, rfl, ha, hl, hA, nB, sB, ro⟩ := r
          obtain ⟨v, A', h1, h2, t, ro'⟩ := ors_open ed hk2 ro es
          refine ⟨_, hw, a, _, dx, _, v, rfl, ha, hC, hN, h1, q v H (fun b => M b ∧ ¬ A' b) ?_ t Fr.open⟩
          have g2 : Good c (un (un R (fun b => A b ∧ ¬ A' b)) A') pn σ (ρ.set i none) H M := g1.anti fun b h => by
            rcases h with (h | h) | h
            · exact .inl h
            · exact .inr h.1
            · exact .inr (sB b (h2 b h))
          have g3 := g2.open fun b hb z => by
            rcases z with z | z
            · exact dA b (sB b (h2 b hb)) z
            · exact z.2 hb
          refine Good.back g3 hw ?_ fun b h z => dA b h.1 z
          rw [OR]
          exact ⟨a, dx, vs, fun b => B b ∧ ¬ A' b, rfl, ha, hl, ⟨hA, fun z => nB (h2 a z)⟩, fun z => nB z.1, fun b h => ⟨sB b h.1, h.2⟩, ro'⟩
        · exact q.elim
      · exact q.elim
    · exact q.elim
  · exact q.elim
/-! ### loops over what may change things on its way -/
def PostI (c : Ctx) (W : WX) (R : AS) (pn : List (Nat × V)) (σ : L2.St) (H : Hp) (M : AS) (Q : It → Hp → Prop) : O (List D) → Prop
  | .no => False
  | .ok ds ρ' => ∀ J H' M', Good c R pn σ ρ' H' M' → Goes c (fun H2 M2 => Gro (mask H' M') (mask H2 M2)) J ds → Fr R H M H' M' → Q J H'
  | .ex k ρ' => ∀ H' M', Good c R pn σ ρ' H' M' → Fr R H M H' M' → W (.ref (c.ca k)) none σ H'
def DIe (X : Cx) (c : Ctx) (W : WX) (tg e : Expr) (f : Env → O (List D)) : Prop := ∃ wi : TI, PI X tg e wi ∧ ∀ R pn σ ρ H M, Good c R pn σ ρ H M → ∀ Q : It → Hp → Prop, PostI c W R pn σ H M Q (f ρ) → wi σ H Q
def lI (f : Env → Option (List D)) : Env → O (List D) := fun ρ => .opt ρ (f ρ)
theorem DId.ie {tg e : Expr} {f : Env → Option (List D)} (h : DId X c tg e f) : DIe X c W tg e (lI f) := by
  obtain ⟨wi, pi, h⟩ := h
  refine ⟨wi, pi, fun R pn σ ρ H M g Q q => ?_⟩
  unfold lI at q
  cases o : f ρ with
  | none => rw [o] at q; exact q.elim
  | some ds => rw [o] at q; exact h R pn σ ρ H M g ds o Q fun J H' k go => q J H' M (g.gro k) go (Fr.gro g k)
def fWalk (f : Env → O D) : Env → O (List D) := fun ρ => (f ρ).bind fun d ρ => .opt ρ d.walk
theorem die_seq {tg e : Expr} {f : Env → O D} (hK : c.K = X.K) (h : DD X c W e f) : DIe X c W tg e (fWalk f) := by
  obtain ⟨te, pe, h⟩ := h
  refine ⟨_, pi_seq pe, fun R pn σ ρ H M g Q q => h R pn σ ρ H M g _ ?_⟩
  unfold fWalk at q
  cases o : f ρ with
  | no => rw [o] at q; exact q
  | ex k ρ' => rw [o] at q; exact q
  | ok s ρ1 =>
    rw [o] at q
    intro v H' M' g' r fr
    dsimp only [O.bind] at q
    cases s with
    | str z =>
      rw [TR] at r
      exact Or.inr (Or.inr ⟨z, r, q _ H' M' g' goes_str fr⟩)
    | lst xs =>
      rw [TR] at r
      obtain ⟨a, vs, rfl, sq, t⟩ := r
      rw [hK] at sq
      exact Or.inl ⟨a, rfl, ⟨vs, seqL_full sq⟩, q _ H' M' g' (goes_list fun H2 M2 iv => ⟨seqL_full (seqL_mono iv.rx sq), t.mono iv.rx _ _⟩) fr⟩
    | tup xs =>
      rw [TR] at r
      obtain ⟨a, vs, rfl, sq, t⟩ := r
      rw [hK] at sq
      exact Or.inr (Or.inl ⟨a, rfl, ⟨vs, seqT_full sq⟩, q _ H' M' g' (goes_tup fun H2 M2 iv => ⟨seqT_full (seqT_mono iv.rx sq), t.mono iv.rx _ _⟩) fr⟩)
    | _ => exact q.elim
def sForE (src : Env → O (List D)) (F : D → Env → Option Env) (cl : List Nat) (body : Env → O Fl) : Env → O Fl := fun ρ => (src ρ).bind fun ds ρ => forGo F cl body ds (clr ρ cl)
theorem ds_forE {tg iter : Expr} {body : List Stmt} {is cl : List Nat} {src : Env → O (List D)} {F : D → Env → Option Env} {f : Env → O Fl} (hp : PassesOwn (model X.prog X.w) X.A X.env X.xe) (hc : X.calm = true) (hi : DIe X c W tg iter src) (hg : DG X c tg is F) (hni : ∀ i ∈ is, i ∉ np) (hb : DSs X c W np body f)
    (hs : ∀ x, foldedSetIterable iter X.env x = pure x := by intro _; rfl) : DSt X c W np (.For tg iter body [] pos) (sForE src F cl f) := by
  obtain ⟨wi, pi, h⟩ := hi
  obtain ⟨ts, ps, hb⟩ := hb
  refine ⟨_, ps_for hp hc pi hg ps hs, fun R pn σ ρ H M hn g0 D q => h R pn σ ρ H M g0 _ ?_⟩
  unfold sForE at q
  cases o : src ρ with
  | no => rw [o] at q; exact q
  | ex k ρ' => rw [o] at q; exact fun H' M' g' fr => q σ H' M' g' fr
  | ok ds ρ0 =>
    rw [o] at q
    intro J H1 M1 g1 go fr1
    have q : PostS c W R pn D H M (forGo F cl f ds (clr ρ0 cl)) := q
    let Pv : Nat → L2.St → Hp → Prop := fun i σ' H' => i ≤ ds.length ∧ ∃ ρ' M', Good c R pn σ' ρ' H' M' ∧ Fr R H1 M1 H' M' ∧ PostS c W R pn D H1 M1 (forGo F cl f (ds.drop i) ρ')
    refine ⟨fun i m σ' H' => m = ds.length - i ∧ Pv i σ' H', ⟨ds.length, by simp, Nat.zero_le _, _, M1, g1.clr cl, Fr.refl, PostS.after q fr1⟩, ?_⟩
    rintro i m σ' H' ⟨rfl, hi, ρ', M', g', fr', q'⟩
    obtain ⟨g_go, g_stop⟩ := go H' M' fr'.gr g'.trk i
    cases hx : ds[i]? with
    | none =>
      refine .inl ⟨g_stop hx, ?_⟩
      have : ds.length ≤ i := List.getElem?_eq_none_iff.mp hx
      rw [List.drop_of_length_le this] at q'
      exact q' σ' H' M' g' fr'
    | some d =>
      obtain ⟨hgo, hy⟩ := g_go d hx
      have hlt : i < ds.length := (List.getElem?_eq_some_iff.mp hx).1
      have hdr : ds.drop i = d :: ds.drop (i + 1) := by
        rw [List.drop_eq_getElem_cons hlt]; congr 1
        exact (List.getElem?_eq_some_iff.mp hx).2
      rw [hdr, forGo] at q'
      refine .inr ⟨hgo, Pv (i + 1), fun σ2 H2 p => ⟨ds.length - (i + 1), by omega, rfl, p⟩, fun x H2 y => ?_⟩
      obtain ⟨k2, tx⟩ := hy x H2 y
      have g2 := g'.gro k2
      have fr2 := fr'.trans (Fr.gro g' k2)
      split at q'
      · exact q'.elim
      · rename_i ρ1 o3
        refine ⟨R, M', ρ', ρ1, d, g2.nop, tx, o3, fun σ3 bar g3 => ?_⟩
        have g3' : Good c R pn σ3 ρ1 H2 M' := g3.pins fun p hp => by rw [bar.2 p.1 fun z => hni _ z (hn p hp)]; exact g2.pin p hp
        refine hb R pn σ3 ρ1 H2 M' hn g3' _ ?_
        cases ob : f ρ1 with
        | no => rw [ob] at q'; exact q'
        | ex k ρ2 => rw [ob] at q'; exact PostS.after (o := .ex k ρ2) q' fr2
        | ok a ρ2 =>
          rw [ob] at q'
          cases a with
          | nx => exact fun σ4 H4 M4 g4 fr4 => ⟨hlt, _, M4, g4.clr cl, fr2.trans fr4, q'⟩
          | ct => exact fun σ4 H4 M4 g4 fr4 => ⟨hlt, _, M4, g4.clr cl, fr2.trans fr4, q'⟩
          | bk => exact fun σ4 H4 M4 g4 fr4 => q' σ4 H4 M4 (g4.clr cl) (fr2.trans fr4)
          | rt s => exact PostS.after (o := .ok (.rt s) ρ2) q' fr2
/-! ### while, with fuel -/
def whGo (t : Env → O Bool) (cl : List Nat) (body : Env → O Fl) : Nat → Env → O Fl
  | 0, _ => .no
  | n + 1, ρ => (t ρ).bind fun b ρ1 => if b then match body ρ1 with
    | .ok .nx ρ2 => whGo t cl body n (clr ρ2 cl)
    | .ok .ct ρ2 => whGo t cl body n (clr ρ2 cl)
    | .ok .bk ρ2 => .ok .nx (clr ρ2 cl)
    | o => o
    else .ok .nx (clr ρ1 cl)
theorem ds_while {e : Expr} {body : List Stmt} {t : Env → O Bool} {cl : List Nat} {f : Env → O Fl} (n : Nat) (hp : PassesOwn (model X.prog X.w) X.A X.env X.xe) (ht : DT X c W e t) (hb : DSs X c W np body f) : DSt X c W np (.While e body [] pos) (fun ρ => whGo t cl f n (clr ρ cl)) := by
  obtain ⟨tt, pt, ht⟩ := ht
  obtain ⟨ts, ps, hb⟩ := hb
  refine ⟨_, ps_while hp pt ps, fun R pn σ ρ H M hn g0 D q => ?_⟩
  refine ⟨fun m σ' H' => ∃ ρ' M', Good c R pn σ' ρ' H' M' ∧ Fr R H M H' M' ∧ PostS c W R pn D H M (whGo t cl f m ρ'), ⟨n, _, M, g0.clr cl, Fr.refl, q⟩, ?_⟩
  rintro m σ' H' ⟨ρ', M', g', fr', q'⟩
  cases m with
  | zero => exact q'.elim
  | succ m =>
    refine ht R pn σ' ρ' H' M' g' _ ?_
    rw [whGo] at q'
    cases o : t ρ' with
    | no => rw [o] at q'; exact q'
    | ex k ρ2 => rw [o] at q'; exact fun H2 M2 g2 f2 => q' σ' H2 M2 g2 (fr'.trans f2)
    | ok b ρ1 =>
      rw [o] at q'
      intro H1 M1 g1 fr1
      cases b with
      | false => exact iteF (q' σ' H1 M1 (g1.clr cl) (fr'.trans fr1))
      | true =>
        have fr2 := fr'.trans fr1
        refine iteT ⟨fun σ2 H2 => ∃ ρ' M', Good c R pn σ2 ρ' H2 M' ∧ Fr R H M H2 M' ∧ PostS c W R pn D H M (whGo t cl f m ρ'), fun σ2 H2 h => ⟨m, Nat.lt_succ_self m, h⟩, hb R pn σ' ρ1 H1 M1 hn g1 _ ?_⟩
        dsimp only [O.bind] at q'
        rw [if_pos rfl] at q'
        cases ob : f ρ1 with
        | no => rw [ob] at q'; exact q'
        | ex k ρ2 => rw [ob] at q'; exact PostS.after (o := .ex k ρ2) q' fr2
        | ok a ρ2 =>
          rw [ob] at q'
          cases a with
          | nx => exact fun σ4 H4 M4 g4 fr4 => ⟨_, M4, g4.clr cl, fr2.trans fr4, q'⟩
          | ct => exact fun σ4 H4 M4 g4 fr4 => ⟨_, M4, g4.clr cl, fr2.trans fr4, q'⟩
          | bk => exact fun σ4 H4 M4 g4 fr4 => q' σ4 H4 M4 (g4.clr cl) (fr2.trans fr4)
          | rt s => exact PostS.after (o := .ok (.rt s) ρ2) q' fr2
end
end DL

/-! DLb: try .. except. -/
namespace DL
open PySem L2 PyProof.Rows
open Classical
section
variable {X : Cx} {c : Ctx} {W : WX} {np : List Nat} {R : AS} {pn : List (Nat × V)} {σ : L2.St} {ρ : Env} {H H1 : Hp} {M M1 : AS} {pos : Pos} {i : Nat}
/-- a block's reading that hangs on nothing but what it does -/
def rdS (c : Ctx) (np : List Nat) (f : Env → O Fl) (W : WX) : TS := fun D σ H => ∃ R pn ρ M, (∀ p ∈ pn, p.1 ∈ np) ∧ Good c R pn σ ρ H M ∧ PostS c W R pn D H M (f ρ)
theorem DSs.can {st : List Stmt} {f : Env → O Fl} (h : DSs X c W np st f) : PSs X st (rdS c np f W) := by
  obtain ⟨ts, ps, h⟩ := h
  exact ⟨fun pins s σ H D I ⟨R, pn, ρ, M, hn, g, q⟩ => ps.run pins s σ H D I (h R pn σ ρ H M hn g D q)⟩
abbrev W0 : WX := fun _ _ _ _ => False
theorem Good.unset (g : Good c R pn σ ρ H M) (hp : ∀ p ∈ pn, p.1 ≠ i) : Good c R pn (σ.set i none) (ρ.set i none) H M := by
  obtain ⟨fp, o, dj, m⟩ := g.own
  refine ⟨by simpa using g.len, ⟨fp, fun j t e => ?_, dj, m⟩, g.sub, g.trk, fun p h => ?_⟩
  · obtain ⟨ne, e'⟩ := set_none e
    obtain ⟨v, e1, e2⟩ := o j t e'
    exact ⟨v, by rw [List.getElem?_set_ne (fun z => ne z.symm)]; exact e1, e2⟩
  · rw [List.getElem?_set_ne (fun z => hp p h z.symm)]; exact g.pin p h
/-- which classes a clause takes -/
def sTryOnly (hit : Str → Option Bool) (body : Env → O Fl) (suite : Str → Env → O Fl) : Env → O Fl := fun ρ => match body ρ with
  | .ex k ρ' => match hit k with
    | some true => match suite k ρ' with
      | .ex _ _ => .no
      | o => o
    | some false => .ex k ρ'
    | none => .no
  | o => o
theorem post_noex {o : O Fl} {Dn : Ends} (h : PostS c W R pn Dn H M (match o with
      | .ex _ _ => .no
      | o => o)) : PostS c W0 R pn Dn H M o := by
  cases o with
  | no => exact h
  | ex k ρ => exact h.elim
  | ok a ρ => cases a <;> exact h
theorem ds_try_only {x : Str} {cv : Value} {body suite : List Stmt} {b₀ : Stmt} {xp pos' : Pos} {f : Env → O Fl} {g : Str → Env → O Fl} {hit : Str → Option Bool} (hs : X.stack = X.env :: X.outer) (hf : X.env.frame = some X.env.locals) (hc : Names X x cv) (tk : Takes X W)
    (hx : ∀ k b, hit k = some b → PySem.W.exmOne X.K (.ref (c.ca k)) cv = some b)
    (hb : ∀ (W : WX) (pn : List (Addr × Obj)) (xe : Value → Shared → Prop), Takes (X.tr pn xe) W → PassesOwn (model X.prog X.w) X.A X.env xe → DSs (X.tr pn xe) c W np body f)
    (hsu : ∀ (k : Str) (a : Addr) (oe : Obj) (pn : List (Addr × Obj)), Zc (.ref (c.ca k)) none oe → (∃ vs, oe.data = .fields vs) → DSs (X.suite a ((a, oe) :: pn)) c W0 np (b₀ :: suite) (g k)) :
    DSt X c W np (.Try body [.ExceptHandler (some (.Name x xp)) none (b₀ :: suite) pos'] [] [] pos) (sTryOnly hit f g) := by
  refine ⟨_, ps_try_only (tb := rdS c np f) (ts := fun a cls d D σ H => ∃ k, cls = .ref (c.ca k) ∧ d = none ∧ rdS c np (g k) W0 D σ H) hs hf hc tk (fun W pn xe t p => (hb W pn xe t p).can) (fun a oe cls d pn hz hv => ?_), fun R pn σ ρ H M hn g0 D q => ?_⟩
  · exact ⟨fun pins s σ H D I ⟨k, e1, e2, h⟩ => by subst e1; subst e2; exact (hsu k a oe pn hz hv).can.run pins s σ H D I h⟩
  · refine ⟨R, pn, ρ, M, hn, g0, ?_⟩
    unfold sTryOnly at q
    cases o : f ρ with
    | no => rw [o] at q; exact q
    | ok a ρ' => rw [o] at q; cases a <;> exact q
    | ex k ρ' =>
      rw [o] at q
      intro σ' H' M' g' fr
      dsimp only at q
      split at q
      · rename_i hk
        exact ⟨true, hx k true hk, fun _ a ha => ⟨k, rfl, rfl, R, pn, ρ', M', hn, g', PostS.after (post_noex q) fr⟩, fun z => nomatch z⟩
      · rename_i hk
        exact ⟨false, hx k false hk, (fun z => nomatch z), fun _ => q σ' H' M' g' fr⟩
      · exact q.elim
/-- with a name for it: the suite's outcome hangs on the address nowhere -/
def unsetO (i : Nat) : O Fl → O Fl
  | .ok (.rt s) ρ => .ok (.rt s) ρ
  | .ok a ρ => .ok a (ρ.set i none)
  | .ex _ _ => .no
  | .no => .no
def sTryAs (i : Nat) (hit : Str → Option Bool) (body : Env → O Fl) (suite : Addr → Str → Env → O Fl) : Env → O Fl := fun ρ => match body ρ with
  | .ex k ρ' => match hit k with
    | some true => if i < ρ'.length then unsetO i (suite 0 k (ρ'.set i (some (.dat (.ref 0))))) else .no
    | some false => .ex k ρ'
    | none => .no
  | o => o
theorem ds_try_as {x n : Str} {cv : Value} {body suite : List Stmt} {b₀ : Stmt} {xp pos' : Pos} {f : Env → O Fl} {g : Addr → Str → Env → O Fl} {hit : Str → Option Bool} (hs : X.stack = X.env :: X.outer) (hf : X.env.frame = some X.env.locals) (hN : X.N.Nodup) (hi : X.N[i]? = some n) (hln : X.env.kindOf n = some .local) (hni : i ∉ np) (hc : Names X x cv) (tk : Takes X W)
    (hx : ∀ k b, hit k = some b → PySem.W.exmOne X.K (.ref (c.ca k)) cv = some b)
    (hb : ∀ (W : WX) (pn : List (Addr × Obj)) (xe : Value → Shared → Prop), Takes (X.tr pn xe) W → PassesOwn (model X.prog X.w) X.A X.env xe → DSs (X.tr pn xe) c W np body f)
    (hsu : ∀ (k : Str) (a : Addr) (oe : Obj) (pn : List (Addr × Obj)), Zc (.ref (c.ca k)) none oe → (∃ vs, oe.data = .fields vs) → DSs (X.suite a ((a, oe) :: pn)) c W0 np (b₀ :: suite) (g a k))
    (hind : ∀ (a : Addr) (k : Str) (ρ : Env), unsetO i (g a k (ρ.set i (some (.dat (.ref a))))) = unsetO i (g 0 k (ρ.set i (some (.dat (.ref 0)))))) :
    DSt X c W np (.Try body [.ExceptHandler (some (.Name x xp)) (some n) (b₀ :: suite) pos'] [] [] pos) (sTryAs i hit f g) := by
  refine ⟨_, ps_try_as (tb := rdS c np f) (ts := fun a cls d D σ H => ∃ k, cls = .ref (c.ca k) ∧ d = none ∧ rdS c np (g a k) W0 D σ H) hs hf hN hi hln hc tk (fun W pn xe t p => (hb W pn xe t p).can) (fun a oe cls d pn hz hv => ?_), fun R pn σ ρ H M hn g0 D q => ?_⟩
  · exact ⟨fun pins s σ H D I ⟨k, e1, e2, h⟩ => by subst e1; subst e2; exact (hsu k a oe pn hz hv).can.run pins s σ H D I h⟩
  · refine ⟨R, pn, ρ, M, hn, g0, ?_⟩
    unfold sTryAs at q
    cases o : f ρ with
    | no => rw [o] at q; exact q
    | ok a ρ' => rw [o] at q; cases a <;> exact q
    | ex k ρ' =>
      rw [o] at q
      intro σ' H' M' g' fr
      dsimp only at q
      split at q
      · rename_i hk
        split at q
        · rename_i hl
          refine ⟨true, hx k true hk, fun _ a ha => ⟨k, rfl, rfl, R, pn, ρ'.set i (some (.dat (.ref a))), M', hn, g'.setD (by rw [← g'.len]; exact hl) (by rw [TR]) (fun p hp e => hni (by rw [← e]; exact hn p hp)), ?_⟩, fun z => nomatch z⟩
          rw [← hind a k ρ'] at q
          have npi : ∀ p ∈ pn, p.1 ≠ i := fun p hp e => hni (by rw [← e]; exact hn p hp)
          cases os : g a k (ρ'.set i (some (.dat (.ref a)))) with
          | no => rw [os] at q; exact q
          | ex k2 ρ2 => rw [os] at q; exact q.elim
          | ok b ρ2 =>
            rw [os] at q
            cases b with
            | nx => exact fun σ2 H2 M2 g2 f2 => q _ H2 M2 (g2.unset npi) (fr.trans f2)
            | bk => exact fun σ2 H2 M2 g2 f2 => q _ H2 M2 (g2.unset npi) (fr.trans f2)
            | ct => exact fun σ2 H2 M2 g2 f2 => q _ H2 M2 (g2.unset npi) (fr.trans f2)
            | rt s => exact fun v σ2 H2 M2 A g2 dj r f2 => q v σ2 H2 M2 A g2 dj r (fr.trans f2)
        · exact q.elim
      · rename_i hk
        exact ⟨false, hx k false hk, (fun z => nomatch z), fun _ => q σ' H' M' g' fr⟩
      · exact q.elim
/-- isinstance(e, T), e what the suite holds -/
def gIsE (a : Addr) (b : Bool) (f : Env → Option D) : Env → Option D := fun ρ => match f ρ with
  | some (.ref a') => if a' = a then some (.bl b) else none
  | _ => none
theorem dp_isE {a : Addr} {oe : Obj} {pl : List (Addr × Obj)} {k : Str} {b : Bool} {e1 e2 : Expr} {f : Env → Option D} {p : Pos} {v2 : V} {cv : Value} (C : ExcC X.K (c.ca k)) (hz : Zc (.ref (c.ca k)) none oe) (hv : ∃ vs, oe.data = .fields vs)
    (hg : Gl (X.suite a ((a, oe) :: pl)) "isinstance") (hm : X.mg "isinstance" = none) (h1 : DP (X.suite a ((a, oe) :: pl)) c e1 f) (h2 : PE (X.suite a ((a, oe) :: pl)) e2 (tC v2)) (hr : ∀ u, RelV v2 u → u = cv) (hk : PySem.W.kitOne X.K (.ref (c.ca k)) cv = some b)
    (hs1 : starEach (e1 :: [e2]) X.env = (false, eval e1 X.env) :: starEach [e2] X.env := by rfl) (hs2 : starEach [e2] X.env = (false, eval e2 X.env) :: starEach [] X.env := by rfl) (hpl : (backTo pos (starEach [e2] X.env)).any (·.1) = false := by rfl) :
    DP (X.suite a ((a, oe) :: pl)) c (.Call (.Name "isinstance" p) [e1, e2] [] pos) (gIsE a b f) := by
  obtain ⟨te, pe, h⟩ := h1
  refine ⟨_, pe_callB (call_isE (X := X) C hz hv) hg hm (by decide +kernel) (pa_cons pe (pa_cons h2 pa_nil hs2) hs1) (by decide) (by decide) hs1 hpl, fun R pn σ ρ H M g0 d e Q q => ?_⟩
  unfold gIsE at e; split at e
  · rename_i a' o
    split at e
    · rename_i ha
      cases e
      refine h R pn σ ρ H M g0 _ o _ fun v H1 k1 t => ?_
      rw [TR] at t
      exact ⟨v2, cv, b, by rw [t, ha], hr, hk, q _ H1 k1 (by rw [TR])⟩
    · cases e
  · cases e
end
end DL
namespace DL
open PySem L2 PyProof.Rows
open Classical
section
variable {X : Cx} {c : Ctx} {W : WX} {np : List Nat} {R : AS} {pn : List (Nat × V)} {σ : L2.St} {ρ : Env} {H H1 : Hp} {M M1 : AS} {pos : Pos} {i : Nat}
/-! ### name = [..] -/
theorem ds_setLc {y : Str} {py spos : Pos} {elt tg iter : Expr} {ifs : List Expr} {scope : Scope} {own : List (Str × Nat)} {is : List Nat} {src : Env → Option (List D)} {F : D → Env → Option Env} {test : Env → Option Bool} {f : Env → Option D} (fr : Option (List D) → Option S) (hfr : fr = (fun o => o.map lstD) ∨ fr = (fun o => o.map fun ds => .dat (.lst ds)))
    (hc : X.calm = true) (hN : X.N.Nodup) (hy : X.N[i]? = some y) (hyl : X.env.scope.names.lookup y = some .local) (hni : i ∉ np)
    (hsw : swapsWith (.ListComp elt [⟨tg, iter, ifs, 0⟩] scope pos) (some (.Name y py)) spos.line X.env = pure true) (hi : DIp X c tg iter src) (ok : BlkOk X.N X.env.scope scope own) (hsub : ∀ i ∈ is, i ∈ own.map (·.2))
    (hg : ∀ (s : Shared) (H : Hp) (C : Addr) (cl : List (Str × Addr)) (fp : List Addr), DG (X.blk s H scope (compEnvC scope cl C X.env) fp) c tg is F) (ht : ∀ (s : Shared) (H : Hp) (C : Addr) (cl : List (Str × Addr)) (fp : List Addr), DPTs (X.blk s H scope (compEnvC scope cl C X.env) fp) c ifs test)
    (he : ∀ (s : Shared) (H : Hp) (C : Addr) (cl : List (Str × Addr)) (fp : List Addr), DP (X.blk s H scope (compEnvC scope cl C X.env) fp) c elt f) (hs : ∀ x, foldedSetIterable iter X.env x = pure x := by intro _; rfl) :
    DSt X c W np (.Assign [.Name y py] (.ListComp elt [⟨tg, iter, ifs, 0⟩] scope pos) spos) (sSet i (fun ρ => .opt ρ (fr (gComp src (own.map (·.2)) F test f ρ)))) := by
  obtain ⟨wi, pi, h⟩ := hi
  refine ⟨_, ps_setLc hc hN hy hyl hsw pi ok hg (fun s H C cl fp => (ht s H C cl fp).can) (fun s H C cl fp => (he s H C cl fp).can) hs, fun R pn σ ρ H M hn g0 D q => ?_⟩
  refine set_read (np := np) (f := fun ρ => .opt ρ (fr (gComp src (own.map (·.2)) F test f ρ))) hni (fun R pn σ ρ H M g Q q => ?_) hn g0 q
  cases o : gComp src (own.map (·.2)) F test f ρ with
  | none =>
    rw [o] at q
    rcases hfr with rfl | rfl <;> exact q.elim
  | some ds =>
    rw [o] at q
    refine lc_read hsub h R pn σ ρ H M g ds o Q fun p H' vs hp k hl t => ?_
    rcases hfr with rfl | rfl
    · exact q (.ref p) H' _ (fun a => a = p) (g.addM hp k hl) (fun a e z => g.fresh hp (by rw [← e]; exact g.sub a z)) (or_lst hl t rfl) (Fr.addM g hp k hl)
    · refine q (.ref p) H' M (fun _ => False) ((g.gro k).anti fun a h => h.elim id False.elim) (fun _ z => z.elim) (or_dat ?_) (Fr.gro g k)
      rw [TR]
      exact ⟨p, vs, rfl, .inl (.inl (by rw [mask_out (g.fresh hp)]; exact hl)), t.mono (Rx.unmask fun a h => .inl h) _ _⟩
/-! ### an own def that changes nothing and raises nothing, called -/
def gCallF (F : List S → O S) (f : Env → Option (List D)) : Env → Option D := fun ρ => match f ρ with
  | some ds => match F (ds.map .dat) with
    | .ok s _ => s.er
    | _ => none
  | none => none
theorem pure_read {F : List S → O S} {n : Nat} {ds : List D} {vs : List V} {d : D} {Q : VK} (hl : vs.length = n) (g : Good c R pn σ ρ H M) (t : TRs c.K (mask H M) ds vs) (e : (match F (ds.map .dat) with
    | .ok s _ => s.er
    | _ => none) = some d) (q : ∀ v H', Gro H H' → TR c.K (mask H' M) d v → Q v H') : spF c n [] F vs H Q E0 := by
  refine ⟨hl, M, M, ds.map .dat, ?_, ?_⟩
  · refine ⟨by simp [t.len], ⟨fun _ _ => False, fun j s e => ?_, fun _ _ _ z => z.elim, fun _ _ z => z.elim⟩, fun a h => h, g.trk, fun p hp => by simp [pinsOf] at hp⟩
    simp at e
    obtain ⟨d, hd, rfl⟩ := e
    obtain ⟨v, hv, tv⟩ := t.get hd
    exact ⟨v, by simpa using hv, or_dat tv⟩
  · cases hF : F (ds.map .dat) with
    | no => rw [hF] at e; cases e
    | ex k ρ' => rw [hF] at e; cases e
    | ok s ρ' =>
      rw [hF] at e
      intro v σ' H' M' B g' dB r fr
      have k : Gro H H' := fun a o ha => by
        by_cases m : M a
        · rw [fr.keep a m]; exact ha
        · exact (mask_some (fr.gr a o (by rw [mask_out m]; exact ha))).2
      exact q v H' k (OR.data (M' := M) (fun a ha => g'.sub a (.inl ha)) s v B d dB r e)
theorem pass0S {X : Cx} {σ : L2.St} : PassesAt (L2.CX X.prog X.w) X σ E0 := fun _ _ _ _ _ _ h => by
  obtain ⟨_, _, _, _, _, _, _, _, _, _, _, _, z⟩ := h
  exact z.elim
theorem dp_callF {F : List S → O S} {k : Nat} {g : Addr} {fd : FuncData} {ps : List Str} {x : Str} {p : Pos} {e : Expr} {es : List Expr} {f : Env → Option (List D)} (G : FnOk X.prog X.w X.K X.mg X.base (L2.CX X.prog X.w) k g fd ps (spF c ps.length [] F)) (hr : Room k X.A) (hg : Gl X x)
    (hm : X.mg x = some (.ref g)) (hk : PySem.W.keepIn X.K (.ref g) = true) (hb : Binds X.K fd ps []) (ha : DPA X c (e :: es) f) (hn : ∀ ds ρ, f ρ = some ds → ds.length = ps.length)
    (hdb : (x == ("__debug__" : Str)) = false := by decide) (he : starEach (e :: es) X.env = (false, eval e X.env) :: starEach es X.env := by rfl) (hpl : (backTo pos (starEach es X.env)).any (·.1) = false := by rfl) : DP X c (.Call (.Name x p) (e :: es) [] pos) (gCallF F f) := by
  obtain ⟨ta, pa, h⟩ := ha
  refine ⟨_, pe_callS (E := fun _ => E0) G hr hg hm hk hb (fun σ => pass0S) pa hdb he hpl, fun R pn σ ρ H M g0 d e Q q => ?_⟩
  unfold gCallF at e
  split at e
  · rename_i ds o
    exact h R pn σ ρ H M g0 ds o _ fun vs H1 k1 t => pure_read (by rw [← t.len]; exact hn ds ρ o) (g0.gro k1) t e fun v H2 k2 t2 => q v H2 (k1.trans k2) t2
  · cases e
end
end DL

/-! DLc: what stands where; lengths of argument lists. -/
namespace DL
open PySem L2 PyProof.Rows
theorem u64 {k : Nat} {A : Around} (hr : Room k A) : A.units + 64 < cLine := hr.units
theorem u65 {k : Nat} {A : Around} (hr : Room k A) : A.units + 65 < cLine := by have := hr.un; omega
structure DefAt (K : PySem.W.Frag) (mg : Str → Option Value) (x qual : Str) (st : Stmt) (ps : List Str) (a : Addr) (fd : FuncData) : Prop where
  fn : Fun K x qual st a fd
  bi : Binds K fd ps []
  mg : mg x = some (.ref a)
structure DefOk (P : Program) (w : World) (K : PySem.W.Frag) (mg : Str → Option Value) (base : Heap) (c : Ctx) (k : Nat) (x qual : Str) (st : Stmt) (ps : List Str) (ios : List Nat) (F : List S → O S) (a : Addr) (fd : FuncData) : Prop where
  loc : DefAt K mg x qual st ps a fd
  ok : FnOk P w K mg base (L2.CX P w) k a fd ps (spF c ps.length ios F)
structure MethOk (P : Program) (w : World) (K : PySem.W.Frag) (mg : Str → Option Value) (base : Heap) (c : Ctx) (k : Nat) (C : Addr) (x qual : Str) (st : Stmt) (ps : List Str) (ios : List Nat) (F : List S → O S) (a : Addr) (fd : FuncData) : Prop where
  fn : Fun K x qual st a fd
  bi : Binds K fd ps []
  me : Meth K C x a
  ok : FnOk P w K mg base (L2.CX P w) k a fd ps (spF c ps.length ios F)
structure ExcAt (K : PySem.W.Frag) (mg : Str → Option Value) (ca : Str → Addr) (k : Str) : Prop where
  ex : PySem.W.excIn K (ca k) [.type "ValueError", .type "Exception", .type "BaseException", .type "object"] "ValueError.__new__" = true
  mg : mg k = some (.ref (ca k))
  kp : PySem.W.keepIn K (.ref (ca k)) = true
  be : PySem.W.subIn K (.ref (ca k)) (.type "BaseException") = some true
  ty : PySem.W.typeIn K (.ref (ca k)) = some (.type "type")
/-! lengths -/
theorem gl_nil : ∀ ds ρ, gNil ρ = some ds → ds.length = 0 := fun ds ρ h => by cases h; rfl
theorem gl_cons {f : Env → Option D} {g : Env → Option (List D)} {n : Nat} (h : ∀ ds ρ, g ρ = some ds → ds.length = n) : ∀ ds ρ, gCons f g ρ = some ds → ds.length = n + 1 := fun ds ρ e => by
  unfold gCons at e; split at e
  · rename_i d ds' o1 o2
    cases e
    simp [h _ _ o2]
  · cases e
theorem xl_nil : ∀ as ρ ρ', xNil ρ = .ok as ρ' → as.length = 0 := fun as ρ ρ' h => by cases h; rfl
theorem xl_p {f : Env → Option (List D)} {n : Nat} (h : ∀ ds ρ, f ρ = some ds → ds.length = n) : ∀ as ρ ρ', xP f ρ = .ok as ρ' → as.length = n := fun as ρ ρ' e => by
  unfold xP at e
  cases o : f ρ with
  | none => rw [o] at e; cases e
  | some ds => rw [o] at e; cases e; simp [h _ _ o]
theorem xl_d {f : Env → O D} {g : Env → O (List Ag)} {n : Nat} (h : ∀ as ρ ρ', g ρ = .ok as ρ' → as.length = n) : ∀ as ρ ρ', xD f g ρ = .ok as ρ' → as.length = n + 1 := fun as ρ ρ' e => by
  unfold xD at e
  cases o : f ρ with
  | no => rw [o] at e; cases e
  | ex k ρ1 => rw [o] at e; cases e
  | ok d ρ1 =>
    rw [o] at e
    dsimp only [O.bind] at e
    cases o2 : g ρ1 with
    | no => rw [o2] at e; cases e
    | ex k ρ1 => rw [o2] at e; cases e
    | ok ds ρ2 => rw [o2] at e; cases e; simp [h _ _ _ o2]
theorem xl_io {i : Nat} {g : Env → O (List Ag)} {n : Nat} (h : ∀ as ρ ρ', g ρ = .ok as ρ' → as.length = n) : ∀ as ρ ρ', xIo i g ρ = .ok as ρ' → as.length = n + 1 := fun as ρ ρ' e => by
  unfold xIo at e
  split at e
  · cases o2 : g ρ with
    | no => rw [o2] at e; cases e
    | ex k ρ1 => rw [o2] at e; cases e
    | ok ds ρ2 => rw [o2] at e; cases e; simp [h _ _ _ o2]
  · cases e
theorem xl_s {f : Env → O (List Ag)} {n : Nat} (h : ∀ as ρ ρ', f ρ = .ok as ρ' → as.length = n) : ∀ as ρ ρ', f ρ = .ok as ρ' → as.length + 1 = n + 1 := fun as ρ ρ' e => by rw [h as ρ ρ' e]
theorem gl_s {f : Env → Option (List D)} {n : Nat} (h : ∀ ds ρ, f ρ = some ds → ds.length = n) : ∀ ds ρ, f ρ = some ds → ds.length + 1 = n + 1 := fun as ρ e => by rw [h as ρ e]
end DL

/-! DLd: new dicts. -/
namespace DL
open PySem L2 PyProof.Rows
open Classical
section
variable {X : Cx} {c : Ctx} {W : WX} {pos : Pos}
def fDic0 : Env → O S := fun ρ => .ok (.dic [] []) ρ
theorem de_dict0 : DE X c W (.Dict [] [] pos) fDic0 := by
  refine ⟨_, pe_dnewK, fun R pn σ ρ H M g0 Q q => ?_⟩
  intro p hp
  refine q (.ref p) _ _ (fun a => a = p) (g0.addM hp (Gro.new hp) upd_same) (fun a e z => g0.fresh hp (by rw [← e]; exact g0.sub a z)) ?_ (Fr.addM g0 hp (Gro.new hp) upd_same)
  rw [OR]
  exact ⟨p, [], fun _ => False, rfl, ⟨[], upd_same, rfl, rfl⟩, rfl, id, fun _ h => h.elim, by rw [ORs]⟩
/-! globals -/
theorem gp_int {x : Str} {n : Int} (h : ∃ t, X.mg x = some (.int n t)) (hg : Gl X x) (hd : (x == ("__debug__" : Str)) = false := by decide) : DP X c (.Name x pos) (gC (.int n)) := by
  obtain ⟨t, e⟩ := h
  exact dp_pure (pe_glob (v := .int n) hg e ⟨t, rfl⟩ hd) fun _ => by rw [TR]
theorem gp_str {x : Str} {n : Str} (h : ∃ t, X.mg x = some (.str n t)) (hg : Gl X x) (hd : (x == ("__debug__" : Str)) = false := by decide) : DP X c (.Name x pos) (gC (.str n)) := by
  obtain ⟨t, e⟩ := h
  exact dp_pure (pe_glob (v := .str n) hg e ⟨t, rfl⟩ hd) fun _ => by rw [TR]
theorem gp_ref {x : Str} {d : D} (h : ∃ a, X.mg x = some (.ref a) ∧ ∀ H, TR c.K H d (.ref a)) (hg : Gl X x) (hd : (x == ("__debug__" : Str)) = false := by decide) : DP X c (.Name x pos) (gC d) := by
  obtain ⟨a, e, r⟩ := h
  exact dp_pure (pe_glob (v := .ref a) hg e rfl hd) r
end
end DL

/-! DLe: a suite that asks what class it took. -/
namespace DL
open PySem L2 PyProof.Rows
open Classical
/-- which classes may come, and be taken by the root of all -/
def hitOf (Rs : List Str) : Str → Option Bool := fun k => if k ∈ Rs then some true else none
theorem hitOf_mem {Rs : List Str} {k : Str} {b : Bool} (h : hitOf Rs k = some b) : k ∈ Rs ∧ b = true := by
  unfold hitOf at h; split at h
  · rename_i hm; cases h; exact ⟨hm, rfl⟩
  · cases h
structure TryT (K : PySem.W.Frag) (mg : Str → Option Value) (ca : Str → Addr) (Rs Ts : List Str) : Prop where
  exc : ∀ k ∈ Rs, ExcC K (ca k)
  exm : ∀ k ∈ Rs, PySem.W.exmOne K (.ref (ca k)) (.ref (ca "SayError")) = some true
  kit : ∀ k ∈ Rs, ∀ T ∈ Ts, PySem.W.kitOne K (.ref (ca k)) (.ref (ca T)) = some (k == T)
  kitV : ∀ k ∈ Rs, PySem.W.kitOne K (.ref (ca k)) (.type "ValueError") = some true
  tm : ∀ T ∈ Ts, mg T = some (.ref (ca T))
  say : mg "SayError" = some (.ref (ca "SayError"))
section
variable {X : Cx} {c : Ctx} {W : WX} {np : List Nat} {pos : Pos} {i : Nat}
theorem TryT.hx {K : PySem.W.Frag} {mg : Str → Option Value} {ca : Str → Addr} {Rs Ts : List Str} (T : TryT K mg ca Rs Ts) : ∀ k b, hitOf Rs k = some b → PySem.W.exmOne K (.ref (ca k)) (.ref (ca "SayError")) = some b := fun k b h => by
  obtain ⟨hm, rfl⟩ := hitOf_mem h
  exact T.exm k hm
theorem ds_try_as' {x n : Str} {cv : Value} {body suite : List Stmt} {b₀ : Stmt} {xp pos' : Pos} {f : Env → O Fl} {g : Addr → Str → Env → O Fl} {hit : Str → Option Bool} (hs : X.stack = X.env :: X.outer) (hf : X.env.frame = some X.env.locals) (hN : X.N.Nodup) (hi : X.N[i]? = some n) (hln : X.env.kindOf n = some .local) (hni : i ∉ np) (hc : Names X x cv) (tk : Takes X W)
    (hx : ∀ k b, hit k = some b → PySem.W.exmOne X.K (.ref (c.ca k)) cv = some b)
    (hb : ∀ (W : WX) (pn : List (Addr × Obj)) (xe : Value → Shared → Prop), Takes (X.tr pn xe) W → PassesOwn (model X.prog X.w) X.A X.env xe → DSs (X.tr pn xe) c W np body f)
    (hsu : ∀ (k : Str), hit k = some true → ∀ (a : Addr) (oe : Obj) (pn : List (Addr × Obj)), Zc (.ref (c.ca k)) none oe → (∃ vs, oe.data = .fields vs) → DSs (X.suite a ((a, oe) :: pn)) c W0 np (b₀ :: suite) (g a k))
    (hind : ∀ (a : Addr) (k : Str) (ρ : Env), unsetO i (g a k (ρ.set i (some (.dat (.ref a))))) = unsetO i (g 0 k (ρ.set i (some (.dat (.ref 0)))))) :
    DSt X c W np (.Try body [.ExceptHandler (some (.Name x xp)) (some n) (b₀ :: suite) pos'] [] [] pos) (sTryAs i hit f g) := by
  have h := ds_try_as (pos := pos) (xp := xp) (pos' := pos') (g := fun a k => if hit k = some true then g a k else fun _ => .no) hs hf hN hi hln hni hc tk hx hb (fun k a oe pn hz hv => by
    by_cases hk : hit k = some true
    · rw [if_pos hk]; exact hsu k hk a oe pn hz hv
    · rw [if_neg hk]
      exact dss_never) (fun a k ρ => by
    by_cases hk : hit k = some true
    · rw [if_pos hk, if_pos hk]; exact hind a k ρ
    · rw [if_neg hk, if_neg hk])
  have e : sTryAs i hit f (fun a k => if hit k = some true then g a k else fun _ => .no) = sTryAs i hit f g := by
    funext ρ
    unfold sTryAs
    split
    · split
      · rename_i hk; simp only [if_pos hk]
      · rfl
      · rfl
    · rfl
  rw [e] at h
  exact h
theorem dp_not {e : Expr} {f : Env → Option D} (h : DP X c e f) : DP X c (.UnaryOp .Not e pos) (gBl (gNot (gTst f))) := by
  obtain ⟨te, pe, h⟩ := h
  refine ⟨_, pe_not pe, fun R pn σ ρ H M g0 d e Q q => ?_⟩
  unfold gBl gNot gTst at e
  obtain ⟨b, o, rfl⟩ := Option.map_eq_some_iff.mp e
  obtain ⟨b', o', rfl⟩ := Option.map_eq_some_iff.mp o
  split at o'
  · rename_i b2 o2
    cases o'
    exact h R pn σ ρ H M g0 _ o2 _ fun v H' k t => ⟨b', by rw [TR] at t; exact t, q _ H' k (by rw [TR])⟩
  · cases o'
end
end DL

/-! DLp: evaluating mirrors. -/
namespace DL
open PySem L2 PyProof.Rows
section
variable {ρ ρ1 : Env} {s : S} {d : D} {f g : Env → Option D} {i : Nat}
theorem own_0 : gOwn 0 (some s :: ρ) = some s := rfl
theorem own_s {x : Option S} : gOwn (i + 1) (x :: ρ) = gOwn i ρ := rfl
theorem var_0 : gVar 0 (some (.dat d) :: ρ) = some d := rfl
theorem var_s {x : Option S} : gVar (i + 1) (x :: ρ) = gVar i ρ := rfl
theorem c_e : gC d ρ = some d := rfl
theorem bin_e {F : D → D → Option D} : gBin F f g ρ = (f ρ).bind fun a => (g ρ).bind fun b => F a b := by
  unfold gBin; cases f ρ <;> cases g ρ <;> rfl
def tru : Option D → Option Bool
  | some (.bl b) => some b
  | _ => none
theorem tru_b {b : Bool} : tru (some (.bl b)) = some b := rfl
theorem cmp_e {F : D → D → Option D} : gCmp F f g ρ = tru ((f ρ).bind fun a => (g ρ).bind fun b => F a b) := by
  unfold gCmp; rw [bin_e]; unfold tru; rfl
theorem tst_e : gTst f ρ = tru (f ρ) := rfl
def lim (ds : List D) : Option (List D) := if ds.length ≤ sizeLine then some ds else none
theorem lim_ok {ds : List D} (h : ds.length ≤ 1000000) : lim ds = some ds := if_pos (Nat.le_trans h (by decide))
theorem tup_e {h : Env → Option (List D)} : DL.gTup h ρ = (h ρ).bind fun ds => (lim ds).map .tup := by
  unfold DL.gTup lim
  cases h ρ with
  | none => rfl
  | some ds => dsimp only [Option.bind]; split <;> rfl
theorem cons_e {h : Env → Option (List D)} : DL.gCons f h ρ = (f ρ).bind fun a => (h ρ).bind fun b => some (a :: b) := by
  unfold DL.gCons; cases f ρ <;> cases h ρ <;> rfl
theorem nil_e : DL.gNil ρ = some [] := rfl
theorem lst_e {h : Env → Option (List D)} : DL.gLst h ρ = (h ρ).bind lim := by
  unfold DL.gLst; cases h ρ <;> rfl
theorem asD_e {h : Env → Option S} : asD h ρ = (h ρ).bind fun s => match s with
  | .dat d => some d
  | _ => none := by
  unfold asD
  cases h ρ with
  | none => rfl
  | some s => cases s <;> rfl
theorem asU_e {h : Env → Option S} : asU h ρ = (h ρ).bind S.er := rfl
theorem asB_e : asB f ρ = (f ρ).map .dat := rfl
theorem asL_e {h : Env → Option (List D)} : asL h ρ = (h ρ).map .lst := rfl
theorem ix_e {h : Env → Option S} : gIx h g ρ = (h ρ).bind fun s => (g ρ).bind fun d => s.ix d := by
  unfold gIx; cases h ρ <;> cases g ρ <;> rfl
theorem lT_e {t : Env → Option Bool} : lT t ρ = .opt ρ (t ρ) := rfl
theorem lD_e : lD f ρ = .opt ρ (f ρ) := rfl
theorem fDat_e {h : Env → O D} : fDat h ρ = (h ρ).bind fun d ρ => .ok (.dat d) ρ := rfl
theorem fL_e {h : Env → Option (List D)} : fL h ρ = .opt ρ ((h ρ).map lstD) := rfl
theorem bl_e {t : Env → Option Bool} : gBl t ρ = (t ρ).map .bl := rfl
theorem not_e {t : Env → Option Bool} : gNot t ρ = (t ρ).map (!·) := rfl
theorem and_e {t u : Env → Option Bool} : gAnd t u ρ = (t ρ).bind fun b => if b = true then u ρ else some false := by
  unfold gAnd
  cases t ρ with
  | none => rfl
  | some b => cases b <;> rfl
theorem or_e {t u : Env → Option Bool} : gOr t u ρ = (t ρ).bind fun b => if b = true then some true else u ρ := by
  unfold gOr
  cases t ρ with
  | none => rfl
  | some b => cases b <;> rfl
theorem ite_or {b c : Bool} : (if b = true then some true else some c) = some (b || c) := by cases b <;> rfl
theorem ite_and {b c : Bool} : (if b = true then some c else some false) = some (b && c) := by cases b <;> rfl
theorem ite_bl {b c : Bool} : (if b = true then some (D.bl c) else some (.bl false)) = some (.bl (b && c)) := by cases b <;> rfl
def negD : D → Option D
  | .int a => some (.int (-a))
  | _ => none
theorem neg_i {a : Int} : negD (.int a) = some (.int (-a)) := rfl
theorem neg_e : gNeg f ρ = (f ρ).bind negD := by
  unfold gNeg
  cases f ρ with
  | none => rfl
  | some d => cases d <;> rfl
def sc1 (o : Option D) : Option D := o.bind fun z => if z.sc then some z else none
theorem sc1_i {a : Int} : sc1 (some (.int a)) = some (.int a) := rfl
theorem sc1_b {a : Bool} : sc1 (some (.bl a)) = some (.bl a) := rfl
theorem call1_e {F : List D → Option D} : gCall1 F f ρ = (f ρ).bind fun d => sc1 (F [d]) := by
  unfold gCall1 sc1; cases f ρ with
  | none => rfl
  | some d => dsimp only [Option.bind]; cases F [d] <;> rfl
theorem call_e {F : List D → Option D} {h : Env → Option (List D)} : gCall F h ρ = (h ρ).bind F := by
  unfold gCall; cases h ρ <;> rfl
theorem if_e {t : Env → Option Bool} : gIf t f g ρ = (t ρ).bind fun b => if b then f ρ else g ρ := by
  unfold gIf; cases h : t ρ with
  | none => rfl
  | some b => cases b <;> rfl
theorem chain_e {F G : D → D → Option D} {h : Env → Option D} : gChain F G f g h ρ = (f ρ).bind fun a => (g ρ).bind fun b => (tru (F a b)).bind fun c => if c then (h ρ).bind fun d => G b d else some (.bl false) := by
  unfold gChain
  cases f ρ with
  | none => rfl
  | some a =>
    cases g ρ with
    | none => rfl
    | some b =>
      dsimp only [Option.bind]
      cases F a b with
      | none => rfl
      | some z =>
        cases z with
        | bl c =>
          cases c with
          | true => simp only [tru]; cases h ρ <;> rfl
          | false => rfl
        | _ => rfl
/-! the operators -/
theorem add_i {a b : Int} : D.add (.int a) (.int b) = some (.int (a + b)) := rfl
theorem add_t {a b : List D} (h : a.length + b.length ≤ 1000000) : D.add (.tup a) (.tup b) = some (.tup (a ++ b)) := by
  exact if_pos (Nat.le_trans h (by decide))
theorem add_st {a b : Str} (h : a.length + b.length ≤ 1000000) : D.add (.str a) (.str b) = some (.str (a ++ b)) := by
  exact if_pos (Nat.le_trans h (by decide))
theorem sub_i {a b : Int} : D.sub (.int a) (.int b) = some (.int (a - b)) := rfl
theorem mul_i {a b : Int} (h : (-(2 ^ 64) < a ∧ a < 2 ^ 64) ∨ (-(2 ^ 64) < b ∧ b < 2 ^ 64)) : D.mul (.int a) (.int b) = some (.int (a * b)) := by
  refine if_pos ?_
  rcases h with h | h <;> simp [smallI] <;> omega
theorem mod_i {a b : Int} (h : 0 < b) : D.mod (.int a) (.int b) = some (.int (a % b)) := if_pos h
theorem fdiv_i {a b : Int} (h : 0 < b ∧ b < 1073741824) : D.fdiv (.int a) (.int b) = some (.int (a / b)) := if_pos h
theorem shr_i {a b : Int} (h : 0 ≤ b) : D.shr (.int a) (.int b) = some (.int (a / 2 ^ b.toNat)) := if_pos h
theorem pow_i {a b : Int} (h : 0 ≤ b ∧ b ≤ 1000000 ∧ a.natAbs < 2 ^ 64) : D.pow (.int a) (.int b) = some (.int (a ^ b.toNat)) := if_pos h
theorem lt_i {a b : Int} : D.lt (.int a) (.int b) = some (.bl (decide (a < b))) := rfl
theorem le_i {a b : Int} : D.le (.int a) (.int b) = some (.bl (decide (a ≤ b))) := rfl
theorem gt_i {a b : Int} : D.gt (.int a) (.int b) = some (.bl (decide (b < a))) := rfl
theorem ge_i {a b : Int} : D.ge (.int a) (.int b) = some (.bl (decide (b ≤ a))) := rfl
theorem eq_i {a b : Int} : D.eq (.int a) (.int b) = some (.bl (decide (a = b))) := by
  simp [D.eq, D.eqb, D.P, SeqAt.shaped, PyData.eqv, PyData.canLay0, PyData.depth]
  try (by_cases h : a = b <;> simp [h])
theorem ne_i {a b : Int} : D.ne (.int a) (.int b) = some (.bl (decide (a ≠ b))) := by
  simp [D.ne, D.eqb, D.P, SeqAt.shaped, PyData.eqv, PyData.canLay0, PyData.depth]
  try (by_cases h : a = b <;> simp [h])
theorem eq_st {a b : Str} (ha : PyData.strOk a = true) (hb : PyData.strOk b = true) : D.eq (.str a) (.str b) = some (.bl (decide (a = b))) := by
  simp [ha, hb, D.eq, D.eqb, D.P, SeqAt.shaped, PyData.eqv, PyData.canLay0, PyData.depth]
  try (by_cases h : a = b <;> simp [h])
theorem ne_st {a b : Str} (ha : PyData.strOk a = true) (hb : PyData.strOk b = true) : D.ne (.str a) (.str b) = some (.bl (decide (a ≠ b))) := by
  simp [ha, hb, D.ne, D.eqb, D.P, SeqAt.shaped, PyData.eqv, PyData.canLay0, PyData.depth]
  try (by_cases h : a = b <;> simp [h])
theorem len_l {ds : List D} : F_len [.lst ds] = some (.int ds.length) := rfl
theorem len_t {ds : List D} : F_len [.tup ds] = some (.int ds.length) := rfl
theorem len_st {z : Str} (h : z.length ≤ 1000000) : F_len [.str z] = some (.int z.length) := by
  exact if_pos (Nat.le_trans h (by decide))
theorem min_i {a b : Int} : F_min2 [.int a, .int b] = some (.int (min a b)) := by
  unfold F_min2; simp; split <;> omega
theorem max_i {a b : Int} : F_max2 [.int a, .int b] = some (.int (max a b)) := by
  unfold F_max2; simp; split <;> omega
theorem ixl_e {ds : List D} {a : Int} : S.ix (.dat (.lst ds)) (.int a) = (atI ds a).map .dat := rfl
theorem ixt_e {ds : List D} {a : Int} : S.ix (.dat (.tup ds)) (.int a) = (atI ds a).map .dat := rfl
theorem ixo_e {ds : List S} {a : Int} : S.ix (.lst ds) (.int a) = atI ds a := rfl
theorem atI_nat {α : Type} {xs : List α} {a : Int} (h0 : 0 ≤ a) (h1 : a < xs.length) : atI xs a = xs[a.toNat]? := by
  unfold atI ixN
  simp [h0, h1]
theorem atI_mem {α : Type} {xs : List α} {a : Int} (h0 : 0 ≤ a) (h1 : a < xs.length) : ∃ v ∈ xs, atI xs a = some v := by
  rw [atI_nat h0 h1]
  have h2 : a.toNat < xs.length := by omega
  exact ⟨xs[a.toNat], List.getElem_mem h2, List.getElem?_eq_getElem h2⟩
theorem at_ints (is : List Int) {a : Int} (h0 : 0 ≤ a) (h1 : a < is.length) : ∃ v ∈ is, atI (is.map D.int) a = some (.int v) := by
  obtain ⟨v, hv, e⟩ := atI_mem (xs := is.map D.int) h0 (by simpa using h1)
  obtain ⟨j, hj, rfl⟩ := List.mem_map.mp hv
  exact ⟨j, hj, e⟩
/-! ends -/
def WP {α : Type} (o : O α) (Q : α → Env → Prop) (E : Str → Env → Prop) : Prop := match o with
  | .no => False
  | .ok a ρ => Q a ρ
  | .ex k ρ => E k ρ
end
section
variable {α : Type} {ρ ρ1 : Env} {Q : Fl → Env → Prop} {E : Str → Env → Prop} {b b1 b2 g : Env → O Fl} {i : Nat} {s : S} {d : D}
theorem WP.imp {o : O α} {Q Q' : α → Env → Prop} {E E' : Str → Env → Prop} (h : WP o Q E) (k : ∀ a ρ, Q a ρ → Q' a ρ) (k2 : ∀ a ρ, E a ρ → E' a ρ) : WP o Q' E' := by
  cases o with
  | no => exact h
  | ok a ρ => exact k _ _ h
  | ex a ρ => exact k2 _ _ h
theorem WP.ok {o : O α} {Q : α → Env → Prop} (h : WP o Q fun _ _ => False) : ∃ a ρ, o = .ok a ρ ∧ Q a ρ := by
  cases o with
  | no => exact h.elim
  | ok a ρ => exact ⟨a, ρ, rfl, h⟩
  | ex a ρ => exact h.elim
/-- a block, cut behind its head -/
theorem w_cut {R : Fl → Env → Prop} (h : WP (b ρ) R E) (k : ∀ ρ', R .nx ρ' → WP (g ρ') Q E) (k2 : ∀ fl ρ', fl ≠ .nx → R fl ρ' → Q fl ρ') : WP (sSeq b g ρ) Q E := by
  unfold sSeq
  cases e : b ρ with
  | no => rw [e] at h; exact h
  | ex a ρ' => rw [e] at h; exact h
  | ok a ρ' =>
    rw [e] at h
    cases a with
    | nx => exact k _ h
    | bk => exact k2 _ _ (by simp) h
    | ct => exact k2 _ _ (by simp) h
    | rt v => exact k2 _ _ (by simp) h
theorem w_seq (h : b ρ = .ok .nx ρ1) (k : WP (g ρ1) Q E) : WP (sSeq b g ρ) Q E := by
  unfold sSeq; rw [h]; exact k
theorem w_nx (k : WP (g ρ) Q E) : WP (sSeq sNx g ρ) Q E := k
theorem set_ok {f : Env → O S} (h : f ρ = .ok s ρ1) (hi : i < ρ1.length) : sSet i f ρ = .ok .nx (ρ1.set i (some s)) := by
  unfold sSet; rw [h]; exact if_pos hi
theorem set_d {p : Env → Option D} (h : p ρ = some d) (hi : i < ρ.length) : sSet i (fDat (lD p)) ρ = .ok .nx (ρ.set i (some (.dat d))) := by
  refine set_ok ?_ hi
  rw [fDat_e, lD_e, h]; rfl
theorem blt_lt {a b : Nat} (h : Nat.blt a b = true) : a < b := by simpa [Nat.blt_eq] using h
theorem w_setD {p : Env → Option D} (h : p ρ = some d) (k : ∀ ρ2, ρ.set i (some (.dat d)) = ρ2 → WP (g ρ2) Q E) (hi : Nat.blt i ρ.length = true := by rfl) : WP (sSeq (sSet i (fDat (lD p))) g ρ) Q E := w_seq (set_d h (blt_lt hi)) (k _ rfl)
theorem w_setI {p : Env → Option D} (P : Int → Prop) (h : ∃ n, p ρ = some (.int n) ∧ P n) (k : ∀ n, P n → ∀ ρ2, ρ.set i (some (.dat (.int n))) = ρ2 → WP (g ρ2) Q E) (hi : Nat.blt i ρ.length = true := by rfl) : WP (sSeq (sSet i (fDat (lD p))) g ρ) Q E :=
  let ⟨n, e, h⟩ := h; w_setD e (k n h) hi
theorem w_setI1 {p : Env → Option D} (P : Int → Prop) (h : ∃ n, p ρ = some (.int n) ∧ P n) (k : ∀ n, P n → ∀ ρ2, ρ.set i (some (.dat (.int n))) = ρ2 → Q .nx ρ2) (hi : Nat.blt i ρ.length = true := by rfl) : WP (sSet i (fDat (lD p)) ρ) Q E := by
  obtain ⟨n, e, h⟩ := h
  rw [set_d e (blt_lt hi)]; exact k n h _ rfl
theorem w_setD1 {p : Env → Option D} (h : p ρ = some d) (k : ∀ ρ2, ρ.set i (some (.dat d)) = ρ2 → Q .nx ρ2) (hi : Nat.blt i ρ.length = true := by rfl) : WP (sSet i (fDat (lD p)) ρ) Q E := by
  rw [set_d h (blt_lt hi)]; exact k _ rfl
theorem w_retI {p : Env → Option D} (P : Int → Prop) (h : ∃ n, p ρ = some (.int n) ∧ P n) (k : ∀ n, P n → Q (.rt (.dat (.int n))) ρ) : WP (sRet (fDat (lD p)) ρ) Q E := by
  obtain ⟨n, e, h⟩ := h
  unfold sRet; rw [fDat_e, lD_e, e]; exact k n h
theorem w_retIS {p : Env → Option D} (P : Int → Prop) (h : ∃ n, p ρ = some (.int n) ∧ P n) (k : ∀ n, P n → Q (.rt (.dat (.int n))) ρ) : WP (sSeq (sRet (fDat (lD p))) g ρ) Q E := by
  obtain ⟨n, e, h⟩ := h
  unfold sSeq sRet; rw [fDat_e, lD_e, e]; exact k n h
theorem w_set {f : Env → O S} (h : f ρ = .ok s ρ1) (k : ∀ ρ2, ρ1.set i (some s) = ρ2 → WP (g ρ2) Q E) (hi : Nat.blt i ρ1.length = true := by rfl) : WP (sSeq (sSet i f) g ρ) Q E := w_seq (set_ok h (blt_lt hi)) (k _ rfl)
theorem w_set1 {f : Env → O S} (h : f ρ = .ok s ρ1) (k : ∀ ρ2, ρ1.set i (some s) = ρ2 → Q .nx ρ2) (hi : Nat.blt i ρ1.length = true := by rfl) : WP (sSet i f ρ) Q E := by
  rw [set_ok h (blt_lt hi)]; exact k _ rfl
theorem w_if {t : Env → Option Bool} {c : Bool} (h : t ρ = some c) (k1 : c = true → WP (sSeq b1 g ρ) Q E) (k2 : c = false → WP (sSeq b2 g ρ) Q E) : WP (sSeq (sIf (lT t) b1 b2) g ρ) Q E := by
  have e : sIf (lT t) b1 b2 ρ = if c then b1 ρ else b2 ρ := by
    unfold sIf; rw [lT_e, h]; rfl
  cases c with
  | true => have := k1 rfl; unfold sSeq at *; rw [e]; exact this
  | false => have := k2 rfl; unfold sSeq at *; rw [e]; exact this
theorem w_if1 {t : Env → Option Bool} {c : Bool} (h : t ρ = some c) (k1 : c = true → WP (b1 ρ) Q E) (k2 : c = false → WP (b2 ρ) Q E) : WP (sIf (lT t) b1 b2 ρ) Q E := by
  have e : sIf (lT t) b1 b2 ρ = if c then b1 ρ else b2 ρ := by
    unfold sIf; rw [lT_e, h]; rfl
  cases c with
  | true => rw [e]; exact k1 rfl
  | false => rw [e]; exact k2 rfl
theorem w_ret {f : Env → O S} (h : f ρ = .ok s ρ1) (k : Q (.rt s) ρ1) : WP (sRet f ρ) Q E := by
  unfold sRet; rw [h]; exact k
theorem w_retD {p : Env → Option D} (h : p ρ = some d) (k : Q (.rt (.dat d)) ρ) : WP (sRet (fDat (lD p)) ρ) Q E := w_ret (s := .dat d) (by rw [fDat_e, lD_e, h]; rfl) k
theorem w_retS {f : Env → O S} (h : f ρ = .ok s ρ1) (k : Q (.rt s) ρ1) : WP (sSeq (sRet f) g ρ) Q E := by
  unfold sSeq sRet; rw [h]; exact k
theorem w_retDS {p : Env → Option D} (h : p ρ = some d) (k : Q (.rt (.dat d)) ρ) : WP (sSeq (sRet (fDat (lD p))) g ρ) Q E := w_retS (s := .dat d) (by rw [fDat_e, lD_e, h]; rfl) k
theorem callF_e {F : List S → O S} {h : Env → Option (List D)} {ρ : Env} {ds : List D} {ρ' : Env} {s : S} (e1 : h ρ = some ds) (e2 : F (ds.map .dat) = .ok s ρ') : gCallF F h ρ = s.er := by
  unfold gCallF; rw [e1]; dsimp only; rw [e2]
theorem w_run {k : Nat} {ss : List S} {Q : S → Env → Prop} (h : ∀ ρ, ss.map some ++ List.replicate k none = ρ → WP (b ρ) (fun fl ρ => match fl with
    | .rt s => Q s ρ
    | .nx => Q (.dat .non) ρ
    | _ => False) E) : WP (runF k b ss) Q E := by
  have h := h _ rfl
  unfold runF
  cases e : b (ss.map some ++ List.replicate k none) with
  | no => rw [e] at h; exact h
  | ex a ρ => rw [e] at h; exact h
  | ok a ρ => rw [e] at h; cases a <;> exact h
end
end DL

/-! DLq: more of it: loops, lists, comprehensions, texts, comparing. -/
namespace DL
open PySem L2 PyProof.Rows
/-- plain data: no dict, no address, of bounded depth -/
def D.pl : Nat → D → Bool
  | _, .non => true
  | _, .bl _ => true
  | _, .int _ => true
  | _, .str s => PyData.strOk s
  | 0, _ => false
  | k + 1, .tup ds => ds.all (D.pl k)
  | k + 1, .lst ds => ds.all (D.pl k)
  | _, _ => false
/-- no truth values in it -/
def D.nb : Nat → D → Bool
  | _, .non => true
  | _, .int _ => true
  | _, .str _ => true
  | 0, _ => false
  | k + 1, .tup ds => ds.all (D.nb k)
  | k + 1, .lst ds => ds.all (D.nb k)
  | _, _ => false
theorem pl_P : ∀ (k : Nat) (d : D), D.pl k d = true → ∃ p, D.P d = some p ∧ p.canLay0 = true ∧ p.depth ≤ k
  | k, .non, _ => ⟨_, rfl, rfl, by simp [PyData.depth]⟩
  | k, .bl _, _ => ⟨_, rfl, rfl, by simp [PyData.depth]⟩
  | k, .int _, _ => ⟨_, rfl, rfl, by simp [PyData.depth]⟩
  | k, .str s, h => ⟨.str s, rfl, by cases k <;> simpa [D.pl, PyData.canLay0] using h, by simp [PyData.depth]⟩
  | 0, .tup _, h => by simp [D.pl] at h
  | 0, .lst _, h => by simp [D.pl] at h
  | 0, .dic _ _, h => by simp [D.pl] at h
  | 0, .ref _, h => by simp [D.pl] at h
  | k + 1, .dic _ _, h => by simp [D.pl] at h
  | k + 1, .ref _, h => by simp [D.pl] at h
  | k + 1, .tup ds, h => by
    have hh : ∀ (ds : List D), ds.all (D.pl k) = true → ∃ ps, D.Ps ds = some ps ∧ PyData.canLayAll0 ps = true ∧ PyData.depthAll ps ≤ k := by
      intro ds
      induction ds with
      | nil => exact fun _ => ⟨[], rfl, rfl, by simp [PyData.depthAll]⟩
      | cons d ds ih =>
        intro h
        rw [List.all_cons, Bool.and_eq_true] at h
        obtain ⟨p, e1, e2, e3⟩ := pl_P k d h.1
        obtain ⟨ps, f1, f2, f3⟩ := ih h.2
        exact ⟨p :: ps, by rw [D.Ps, e1, f1], by simp [PyData.canLayAll0, e2, f2], by simp [PyData.depthAll]; omega⟩
    obtain ⟨ps, e1, e2, e3⟩ := hh ds (by simpa [D.pl] using h)
    exact ⟨.tuple ps, by rw [D.P, e1]; rfl, by simpa [PyData.canLay0] using e2, by simp [PyData.depth]; omega⟩
  | k + 1, .lst ds, h => by
    have hh : ∀ (ds : List D), ds.all (D.pl k) = true → ∃ ps, D.Ps ds = some ps ∧ PyData.canLayAll0 ps = true ∧ PyData.depthAll ps ≤ k := by
      intro ds
      induction ds with
      | nil => exact fun _ => ⟨[], rfl, rfl, by simp [PyData.depthAll]⟩
      | cons d ds ih =>
        intro h
        rw [List.all_cons, Bool.and_eq_true] at h
        obtain ⟨p, e1, e2, e3⟩ := pl_P k d h.1
        obtain ⟨ps, f1, f2, f3⟩ := ih h.2
        exact ⟨p :: ps, by rw [D.Ps, e1, f1], by simp [PyData.canLayAll0, e2, f2], by simp [PyData.depthAll]; omega⟩
    obtain ⟨ps, e1, e2, e3⟩ := hh ds (by simpa [D.pl] using h)
    exact ⟨.list ps, by rw [D.P, e1]; rfl, by simpa [PyData.canLay0] using e2, by simp [PyData.depth]; omega⟩
/-- what equal forms of plain data say -/
theorem nb_eqv : ∀ (k : Nat) (x y : D), D.nb k x = true → D.nb k y = true → ∀ p q, D.P x = some p → D.P y = some q → (PyData.eqv p q = true ↔ x = y) := by
  intro k
  induction k with
  | zero =>
    intro x y hx hy p q e1 e2
    cases x <;> simp [D.nb] at hx <;> cases y <;> simp [D.nb] at hy <;> cases e1 <;> cases e2 <;> simp [PyData.eqv]
  | succ k ih =>
    have hh : ∀ (xs ys : List D), xs.all (D.nb k) = true → ys.all (D.nb k) = true → ∀ ps qs, D.Ps xs = some ps → D.Ps ys = some qs → (PyData.eqvAll ps qs = true ↔ xs = ys) := by
      intro xs
      induction xs with
      | nil =>
        intro ys _ hy ps qs e1 e2
        cases e1
        cases ys with
        | nil => cases e2; simp [PyData.eqvAll]
        | cons y ys =>
          rw [D.Ps] at e2
          split at e2
          · cases e2; simp [PyData.eqvAll]
          · cases e2
      | cons x xs ihx =>
        intro ys hx hy ps qs e1 e2
        rw [D.Ps] at e1
        split at e1
        · rename_i p ps' f1 f2
          cases e1
          cases ys with
          | nil => cases e2; simp [PyData.eqvAll]
          | cons y ys =>
            rw [D.Ps] at e2
            split at e2
            · rename_i q qs' g1 g2
              cases e2
              rw [List.all_cons, Bool.and_eq_true] at hx hy
              rw [PyData.eqvAll, Bool.and_eq_true, ih x y hx.1 hy.1 p q f1 g1, ihx ys hx.2 hy.2 ps' qs' f2 g2]
              simp
            · cases e2
        · cases e1
    intro x y hx hy p q e1 e2
    cases x <;> simp [D.nb] at hx <;> cases y <;> simp [D.nb] at hy <;> simp only [D.P, Option.some.injEq, Option.map_eq_some_iff] at e1 e2
    all_goals first
      | (subst e1; subst e2; simp [PyData.eqv]; done)
      | (obtain ⟨ps, f1, rfl⟩ := e1; subst e2; simp [PyData.eqv]; done)
      | (subst e1; obtain ⟨qs, g1, rfl⟩ := e2; simp [PyData.eqv]; done)
      | (obtain ⟨ps, f1, rfl⟩ := e1; obtain ⟨qs, g1, rfl⟩ := e2; simp [PyData.eqv]; done)
      | (obtain ⟨ps, f1, rfl⟩ := e1; obtain ⟨qs, g1, rfl⟩ := e2
         rw [PyData.eqv]
         rw [hh _ _ (by simpa using hx) (by simpa using hy) _ _ f1 g1]
         simp)
theorem shaped_of {p : PyData} (h1 : p.canLay0 = true) (h2 : p.depth ≤ 64) : SeqAt.shaped p = true := by simp [SeqAt.shaped, h1, h2]
theorem eqb_nb {x y : D} {k : Nat} (hk : k ≤ 64) (h1 : D.pl k x = true) (h2 : D.pl k y = true) (n1 : D.nb k x = true) (n2 : D.nb k y = true) : ∃ b, D.eqb x y = some b ∧ (b = true ↔ x = y) := by
  obtain ⟨p, e1, e2, e3⟩ := pl_P k x h1
  obtain ⟨q, f1, f2, f3⟩ := pl_P k y h2
  refine ⟨PyData.eqv p q, ?_, nb_eqv k x y n1 n2 p q e1 f1⟩
  unfold D.eqb
  rw [e1, f1]
  dsimp only
  rw [shaped_of e2 (by omega), shaped_of f2 (by omega)]
  rfl
theorem eq_nb {x y : D} (k : Nat) (h1 : D.pl k x = true) (h2 : D.pl k y = true) (n1 : D.nb k x = true) (n2 : D.nb k y = true) (hk : k ≤ 64 := by decide) [dec : Decidable (x = y)] : D.eq x y = some (.bl (decide (x = y))) ∧ D.ne x y = some (.bl (!decide (x = y))) := by
  obtain ⟨b, e, h⟩ := eqb_nb hk h1 h2 n1 n2
  have hb : b = decide (x = y) := by
    by_cases hx : x = y
    · rw [h.mpr hx]; simp [hx]
    · cases b with
      | true => exact absurd (h.mp rfl) hx
      | false => simp [hx]
  unfold D.eq D.ne
  rw [e, hb]
  exact ⟨rfl, rfl⟩
theorem bls_P : ∀ as : List Bool, D.Ps (as.map .bl) = some (as.map .bool) ∧ PyData.canLayAll0 (as.map .bool) = true ∧ PyData.depthAll (as.map .bool) = 0
  | [] => ⟨rfl, rfl, rfl⟩
  | a :: as => by
    obtain ⟨h1, h2, h3⟩ := bls_P as
    refine ⟨?_, ?_, ?_⟩
    · rw [List.map_cons, D.Ps, h1]; rfl
    · rw [List.map_cons, PyData.canLayAll0, h2]; rfl
    · rw [List.map_cons, PyData.depthAll, h3]; rfl
theorem bls_eqv : ∀ as bs : List Bool, PyData.eqvAll (as.map .bool) (bs.map .bool) = decide (as = bs)
  | [], [] => rfl
  | [], _ :: _ => rfl
  | _ :: _, [] => rfl
  | a :: as, b :: bs => by
    rw [List.map_cons, List.map_cons, PyData.eqvAll, bls_eqv as bs]
    cases a <;> cases b <;> simp [PyData.eqv]
theorem eqb_bls (as bs : List Bool) : D.eqb (.lst (as.map .bl)) (.lst (bs.map .bl)) = some (decide (as = bs)) := by
  obtain ⟨h1, h2, h3⟩ := bls_P as
  obtain ⟨g1, g2, g3⟩ := bls_P bs
  unfold D.eqb
  rw [D.P, D.P, h1, g1]
  dsimp only [Option.map]
  rw [shaped_of (by simpa [PyData.canLay0] using h2) (by simp [PyData.depth, h3]), shaped_of (by simpa [PyData.canLay0] using g2) (by simp [PyData.depth, g3])]
  rw [PyData.eqv, bls_eqv]
  rfl
/-! lists -/
theorem er_lstD {ds : List D} : S.er (lstD ds) = some (.lst ds) := by
  unfold lstD
  rw [S.er]
  have h : ∀ ds : List D, S.ers (ds.map .dat) = some ds := by
    intro ds
    induction ds with
    | nil => rfl
    | cons d ds ih => rw [List.map_cons, S.ers, S.er, ih]
  rw [h]; rfl
theorem items_lstD {ds : List D} : S.items (lstD ds) = some ds := by
  unfold lstD S.items
  dsimp only
  induction ds with
  | nil => rfl
  | cons d ds ih =>
    rw [List.map_cons, List.mapM_cons, ih]; rfl
theorem itemsL_lstD {ds : List D} : S.itemsL (lstD ds) = some ds := items_lstD
theorem itemsL_lst {ds : List D} : S.itemsL (.dat (.lst ds)) = some ds := rfl
theorem walk_lst {ds : List D} : S.walk (.dat (.lst ds)) = some ds := rfl
theorem walk_tup {ds : List D} : S.walk (.dat (.tup ds)) = some ds := rfl
theorem walk_str {z : Str} : S.walk (.dat (.str z)) = some (signsD z) := rfl
theorem walk_lstD {ds : List D} : S.walk (lstD ds) = some ds := items_lstD
theorem ix_lstD {ds : List D} {a : Int} : S.ix (lstD ds) (.int a) = (atI ds a).map .dat := by
  unfold lstD S.ix atI
  dsimp only
  rw [List.length_map]
  cases ixN ds.length a with
  | none => rfl
  | some j => simp
theorem l2_e {f g : Env → Option (List D)} {ρ : Env} : gL2 f g ρ = (f ρ).bind fun a => (g ρ).bind fun b => lim (a ++ b) := by
  unfold gL2 lim
  cases f ρ <;> cases g ρ <;> simp
theorem app_ok {ρ : Env} {i : Nat} {p : Env → Option D} {d : D} {xs : List D} (h : p ρ = some d) (ho : ρ[i]? = some (some (lstD xs))) (hl : xs.length < 1000000) : sApp i (fDat (lD p)) ρ = .ok .nx (ρ.set i (some (lstD (xs ++ [d])))) := by
  unfold sApp
  rw [ho, fDat_e, lD_e, h]
  unfold lstD
  dsimp only [O.opt, O.bind]
  rw [ho]
  unfold lstD
  dsimp only
  rw [if_pos (by rw [List.length_map]; exact Nat.lt_of_lt_of_le hl (by decide))]
  simp
theorem ixP_ok {ρ : Env} {i : Nat} {j : Env → Option D} {p : Env → Option D} {d : D} {xs : List D} {a : Int} (h : p ρ = some d) (ho : ρ[i]? = some (some (lstD xs))) (hj : j ρ = some (.int a)) (h0 : 0 ≤ a) (h1 : a < xs.length) : sIxP i j (fDat (lD p)) ρ = .ok .nx (ρ.set i (some (lstD (xs.set a.toNat d)))) := by
  unfold sIxP
  rw [fDat_e, lD_e, h]
  dsimp only [O.opt, O.bind]
  rw [ho, hj]
  unfold lstD
  dsimp only
  have : ixN (xs.map S.dat).length a = some a.toNat := by unfold ixN; simp [h0, h1]
  rw [this]
  simp [List.map_set]
/-! loops -/
theorem w_forGo {ds : List D} {F : D → Env → Option Env} {cl : List Nat} {body : Env → O Fl} {Q : Fl → Env → Prop} {E : Str → Env → Prop} (Iv : Nat → Env → Prop)
    (step : ∀ j d ρ, ds[j]? = some d → Iv j ρ → ∃ ρ1, F d ρ = some ρ1 ∧ WP (body ρ1) (fun fl ρ2 => match fl with
      | .nx => Iv (j + 1) (clr ρ2 cl)
      | .ct => Iv (j + 1) (clr ρ2 cl)
      | .bk => Q .nx (clr ρ2 cl)
      | .rt s => Q (.rt s) ρ2) E) (hend : ∀ ρ, Iv ds.length ρ → Q .nx ρ) : ∀ (n : Nat) (ρ : Env), n ≤ ds.length → Iv (ds.length - n) ρ → WP (forGo F cl body (ds.drop (ds.length - n)) ρ) Q E
  | 0, ρ, _, h => by
    rw [Nat.sub_zero, List.drop_length]
    exact hend ρ (by simpa using h)
  | n + 1, ρ, hn, h => by
    have hlt : ds.length - (n + 1) < ds.length := by omega
    rw [List.drop_eq_getElem_cons hlt]
    obtain ⟨ρ1, e1, w⟩ := step _ _ ρ (List.getElem?_eq_getElem hlt) h
    rw [forGo, e1]
    dsimp only
    have e : ds.length - (n + 1) + 1 = ds.length - n := by omega
    rw [e] at w ⊢
    cases eb : body ρ1 with
    | no => rw [eb] at w; exact w.elim
    | ex k ρ2 => rw [eb] at w; exact w
    | ok fl ρ2 =>
      rw [eb] at w
      cases fl with
      | nx => exact w_forGo Iv step hend n _ (by omega) w
      | ct => exact w_forGo Iv step hend n _ (by omega) w
      | bk => exact w
      | rt s => exact w
theorem w_forE {src : Env → O (List D)} {ds : List D} {F : D → Env → Option Env} {cl : List Nat} {body : Env → O Fl} {Q : Fl → Env → Prop} {E : Str → Env → Prop} {ρ ρ0 : Env} (Iv : Nat → Env → Prop) (hs : src ρ = .ok ds ρ0) (h0 : ∀ ρ1, clr ρ0 cl = ρ1 → Iv 0 ρ1)
    (step : ∀ j d ρ, ds[j]? = some d → Iv j ρ → ∃ ρ1, F d ρ = some ρ1 ∧ WP (body ρ1) (fun fl ρ2 => match fl with
      | .nx => Iv (j + 1) (clr ρ2 cl)
      | .ct => Iv (j + 1) (clr ρ2 cl)
      | .bk => Q .nx (clr ρ2 cl)
      | .rt s => Q (.rt s) ρ2) E) (hend : ∀ ρ, Iv ds.length ρ → Q .nx ρ) : WP (sForE src F cl body ρ) Q E := by
  unfold sForE
  rw [hs]
  have := w_forGo Iv step hend ds.length (clr ρ0 cl) (Nat.le_refl _) (by rw [Nat.sub_self]; exact h0 _ rfl)
  rw [Nat.sub_self, List.drop_zero] at this
  exact this
theorem rangeD_at {lo : Int} {n j : Nat} {d : D} (h : (rangeD lo n)[j]? = some d) : d = .int (lo + j) ∧ j < n := by
  unfold rangeD at h
  rw [List.getElem?_map] at h
  obtain ⟨k, hk, rfl⟩ := Option.map_eq_some_iff.mp h
  obtain ⟨h1, h2⟩ := List.getElem?_eq_some_iff.mp hk
  rw [List.getElem_range] at h2; subst h2
  exact ⟨rfl, by simpa using h1⟩
theorem rangeD_len {lo : Int} {n : Nat} : (rangeD lo n).length = n := by simp [rangeD]
theorem map_at {α β : Type} {xs : List α} {f : α → β} {j : Nat} {d : β} (h : (xs.map f)[j]? = some d) : ∃ x, xs[j]? = some x ∧ d = f x := by
  rw [List.getElem?_map] at h
  obtain ⟨k, hk, rfl⟩ := Option.map_eq_some_iff.mp h
  exact ⟨k, hk, rfl⟩
def rng1 : D → Option (List D)
  | .int j => if -(2 ^ 62) ≤ j ∧ j < 2 ^ 62 then some (rangeD 0 j.toNat) else none
  | _ => none
theorem rng1_i {j : Int} (h : -(2 ^ 62) ≤ j ∧ j < 2 ^ 62) : rng1 (.int j) = some (rangeD 0 j.toNat) := if_pos h
theorem range1_e {f : Env → Option D} {ρ : Env} : gRange1 f ρ = (f ρ).bind rng1 := by
  unfold gRange1
  cases f ρ with
  | none => rfl
  | some d => cases d <;> rfl
theorem lI_e {f : Env → Option (List D)} {ρ : Env} : lI f ρ = .opt ρ (f ρ) := rfl
theorem dwalk_l {ds : List D} : D.walk (.lst ds) = some ds := rfl
theorem dwalk_t {ds : List D} : D.walk (.tup ds) = some ds := rfl
theorem dwalk_s {z : Str} : D.walk (.str z) = some (signsD z) := rfl
theorem fWalk_e {f : Env → O D} {ρ : Env} : fWalk f ρ = (f ρ).bind fun d ρ => .opt ρ (D.walk d) := rfl
theorem name_e {i : Nat} {d : D} {ρ : Env} (h : Nat.blt i ρ.length = true) : hName i d ρ = some (ρ.set i (some (.dat d))) := if_pos (by simpa [Nat.blt_eq] using h)
theorem clr_n {ρ : Env} : clr ρ [] = ρ := rfl
theorem clr_c {ρ : Env} {i : Nat} {is : List Nat} : clr ρ (i :: is) = (clr ρ is).set i none := rfl
theorem wipe_n {ρ : Env} : wipeE ρ [] = ρ := rfl
theorem wipe_c {ρ : Env} {i : Nat} {is : List Nat} : wipeE ρ (i :: is) = (wipeE ρ is).set i none := rfl
theorem htup_e {n : Nat} {F : List D → Env → Option Env} {ds : List D} {ρ : Env} (h : ds.length = n) : hTup n F (.tup ds) ρ = F ds ρ := if_pos h
theorem hcons_e {F : D → Env → Option Env} {G : List D → Env → Option Env} {d : D} {ds : List D} {ρ : Env} : hCons F G (d :: ds) ρ = (F d ρ).bind fun ρ => G ds ρ := rfl
theorem hnil_e {ρ : Env} : hNil [] ρ = some ρ := rfl
/-! comprehensions -/
theorem compGo_map {α : Type} {tgt : D → Env → Option Env} {test : Env → Option Bool} {elt : Env → Option D} {ρ : Env} (f : α → D) (t : α → Bool) (g : α → D) : ∀ (xs : List α), (∀ x ∈ xs, ∃ ρ1, tgt (f x) ρ = some ρ1 ∧ test ρ1 = some (t x) ∧ (t x = true → elt ρ1 = some (g x))) →
    compGo tgt test elt ρ (xs.map f) = some ((xs.filter t).map g)
  | [], _ => rfl
  | x :: xs, h => by
    obtain ⟨ρ1, e1, e2, e3⟩ := h x List.mem_cons_self
    have ih := compGo_map f t g xs fun y hy => h y (List.mem_cons_of_mem _ hy)
    rw [List.map_cons, compGo, e1]
    dsimp only
    rw [e2]
    cases ht : t x with
    | true =>
      dsimp only
      rw [e3 ht, ih, List.filter_cons_of_pos ht]
      rfl
    | false =>
      dsimp only
      rw [ih, List.filter_cons_of_neg (by simp [ht])]
theorem comp_ok {α : Type} {src : Env → Option (List D)} {own : List Nat} {tgt : D → Env → Option Env} {test : Env → Option Bool} {elt : Env → Option D} {ρ : Env} {xs : List α} (f : α → D) (t : α → Bool) (g : α → D) (hs : src ρ = some (xs.map f)) (hl : xs.length ≤ 1000000)
    (h : ∀ ρ0, wipeE ρ own = ρ0 → ∀ x ∈ xs, ∃ ρ1, tgt (f x) ρ0 = some ρ1 ∧ test ρ1 = some (t x) ∧ (t x = true → elt ρ1 = some (g x))) : gComp src own tgt test elt ρ = some ((xs.filter t).map g) := by
  unfold gComp
  rw [hs]
  dsimp only
  rw [compGo_map f t g xs (h _ rfl)]
  dsimp only
  rw [if_pos]
  rw [List.length_map]
  exact Nat.le_trans (List.length_filter_le _ _) (Nat.le_trans hl (by decide))
theorem comp_all {α : Type} {src : Env → Option (List D)} {own : List Nat} {tgt : D → Env → Option Env} {elt : Env → Option D} {ρ : Env} {xs : List α} (f : α → D) (g : α → D) (hs : src ρ = some (xs.map f)) (hl : xs.length ≤ 1000000)
    (h : ∀ ρ0, wipeE ρ own = ρ0 → ∀ x ∈ xs, ∃ ρ1, tgt (f x) ρ0 = some ρ1 ∧ elt ρ1 = some (g x)) : gComp src own tgt (fun _ => some true) elt ρ = some (xs.map g) := by
  have := comp_ok (src := src) (own := own) (tgt := tgt) (test := fun _ => some true) (elt := elt) (ρ := ρ) f (fun _ => true) g hs hl (fun ρ0 e x hx => by
    obtain ⟨ρ1, e1, e2⟩ := h ρ0 e x hx
    exact ⟨ρ1, e1, rfl, fun _ => e2⟩)
  rw [this, List.filter_eq_self.mpr (fun _ _ => rfl)]
/-! texts -/
theorem signs_S (w : List Nat) : signsD (SX.S w) = w.map fun n => .str (SX.S [n]) := rfl
theorem inb_sign {c : Nat} {w : List Nat} : D.inb (.str (SX.S [c])) (.str (SX.S w)) = some (decide (c ∈ w)) := by
  simp [D.inb, Str.length]
theorem in_sign {c : Nat} {w : List Nat} : D.isIn (.str (SX.S [c])) (.str (SX.S w)) = some (.bl (decide (c ∈ w))) := by
  unfold D.isIn; rw [inb_sign]; rfl
theorem notIn_sign {c : Nat} {w : List Nat} : D.notIn (.str (SX.S [c])) (.str (SX.S w)) = some (.bl (!decide (c ∈ w))) := by
  unfold D.notIn; rw [inb_sign]; rfl
theorem S_iff {a b : List Nat} : SX.S a = SX.S b ↔ a = b := ⟨SX.S_inj, fun h => h ▸ rfl⟩
theorem in_strs {w : List Nat} : ∀ {ws : List (List Nat)}, D.inF (.str (SX.S w)) (ws.map fun w => .str (SX.S w)) = decide (w ∈ ws)
  | [] => rfl
  | u :: ws => by
    have ih := in_strs (w := w) (ws := ws)
    unfold D.inF at *
    rw [List.map_cons, List.any_cons, ih]
    have : D.eqF (.str (SX.S u)) (.str (SX.S w)) = decide (u = w) := by
      show (SX.S u == SX.S w) = _
      exact SX.S_beq_eq
    rw [this]
    by_cases h : u = w
    · simp [h]
    · have h2 : ¬ w = u := fun e => h e.symm
      simp [h, h2]
theorem flats_strs : ∀ ws : List (List Nat), D.flats (ws.map fun w => .str (SX.S w)) = true
  | [] => rfl
  | u :: ws => by
    have := flats_strs ws
    unfold D.flats at *
    rw [List.map_cons, List.all_cons, this]; rfl
theorem inb_strL {w : List Nat} {ws : List (List Nat)} : D.inb (.str (SX.S w)) (.lst (ws.map fun w => .str (SX.S w))) = some (decide (w ∈ ws)) := by
  unfold D.inb
  dsimp only
  rw [flats_strs, in_strs]; rfl
theorem inb_strT {w : List Nat} {ws : List (List Nat)} : D.inb (.str (SX.S w)) (.tup (ws.map fun w => .str (SX.S w))) = some (decide (w ∈ ws)) := by
  unfold D.inb
  dsimp only
  rw [flats_strs, in_strs]; rfl
theorem isIn_strT {w : List Nat} {ws : List (List Nat)} : D.isIn (.str (SX.S w)) (.tup (ws.map fun w => .str (SX.S w))) = some (.bl (decide (w ∈ ws))) := by
  unfold D.isIn; rw [inb_strT]; rfl
theorem isIn_strL {w : List Nat} {ws : List (List Nat)} : D.isIn (.str (SX.S w)) (.lst (ws.map fun w => .str (SX.S w))) = some (.bl (decide (w ∈ ws))) := by
  unfold D.isIn; rw [inb_strL]; rfl
/-- signs that are code points -/
def okS (w : List Nat) : Bool := w.all (· < 0x110000)
theorem strOk_S {w : List Nat} (h : okS w = true) : PyData.strOk (SX.S w) = true := by
  unfold PyData.strOk
  unfold okS at h
  simpa using h
theorem eq_strs {ws vs : List (List Nat)} (h1 : ∀ w ∈ ws, okS w = true) (h2 : ∀ w ∈ vs, okS w = true) : D.eq (.lst (ws.map fun w => .str (SX.S w))) (.lst (vs.map fun w => .str (SX.S w))) = some (.bl (decide (ws = vs))) := by
  have hp : ∀ us : List (List Nat), (∀ w ∈ us, okS w = true) → D.pl 1 (.lst (us.map fun w => .str (SX.S w))) = true := fun us h => by
    simp only [D.pl, List.all_map, List.all_eq_true]
    intro w hw
    exact strOk_S (h w hw)
  have hn : ∀ us : List (List Nat), D.nb 1 (.lst (us.map fun w => .str (SX.S w))) = true := fun us => by
    simp only [D.nb, List.all_map, List.all_eq_true]
    intro w hw
    rfl
  have inj : ∀ us ts : List (List Nat), us.map (fun w => D.str (SX.S w)) = ts.map (fun w => D.str (SX.S w)) ↔ us = ts := fun us => by
    induction us with
    | nil => intro ts; cases ts <;> simp
    | cons u us ih =>
      intro ts
      cases ts with
      | nil => simp
      | cons t ts =>
        rw [List.map_cons, List.map_cons, List.cons.injEq, List.cons.injEq, ih, D.str.injEq, S_iff]
  have : Decidable ((D.lst (ws.map fun w => .str (SX.S w))) = (.lst (vs.map fun w => .str (SX.S w)))) := Classical.propDecidable _
  rw [(eq_nb 1 (hp ws h1) (hp vs h2) (hn ws) (hn vs)).1]
  congr 2
  rw [decide_eq_decide, D.lst.injEq, inj]
theorem eq_S {w v : List Nat} (h1 : okS w = true) (h2 : okS v = true) : D.eq (.str (SX.S w)) (.str (SX.S v)) = some (.bl (decide (w = v))) := by
  rw [eq_st (strOk_S h1) (strOk_S h2)]
  simp only [S_iff]
theorem ne_S {w v : List Nat} (h1 : okS w = true) (h2 : okS v = true) : D.ne (.str (SX.S w)) (.str (SX.S v)) = some (.bl (!decide (w = v))) := by
  rw [ne_st (strOk_S h1) (strOk_S h2)]
  simp only [ne_eq, S_iff, decide_not]
theorem len_S {w : List Nat} (h : w.length ≤ 1000000) : F_len [.str (SX.S w)] = some (.int w.length) := by
  rw [len_st (by rw [SX.S_len]; exact h), SX.S_len]
theorem split_ok {f g : Env → Option D} {ρ : Env} {c : Nat} {parts : List (List Nat)} (h1 : f ρ = some (.str (SX.S (TL.joinL [c] parts)))) (h2 : g ρ = some (.str (SX.S [c]))) (hne : parts ≠ []) (hc : c < 256) (hp : ∀ p ∈ parts, c ∉ p) (hl : (TL.joinL [c] parts).length ≤ 1000000) :
    gSplit f g ρ = some (parts.map fun p => .str (SX.S p)) := by
  unfold gSplit
  rw [h1, h2]
  dsimp only
  have hz : (1000000 : Nat) + 2 ≤ sizeLine := by decide
  rw [if_pos ⟨by simp [Str.length], by rw [SX.S_len]; omega⟩]
  rw [SX.split_S (by simp) (by simp [hc]), SX.spl_join hne hp, List.map_map]
  rfl
end DL

/-! DLr: texts' parts; calls; what may raise. -/
namespace DL
open PySem L2 PyProof.Rows
section
variable {ρ ρ1 : Env} {f g : Env → Option D} {Q : D → Env → Prop} {E : Str → Env → Prop}
theorem ix_S {w : List Nat} {a : Int} (h : w.length ≤ 1000000) : S.ix (.dat (.str (SX.S w))) (.int a) = (atI w a).map fun n => .dat (.str (SX.S [n])) := by
  unfold S.ix
  dsimp only
  rw [if_pos (by rw [SX.S_len]; exact Nat.le_trans h (by decide))]
theorem atI_0 {α : Type} {x : α} {xs : List α} : atI (x :: xs) 0 = some x := by
  rw [atI_nat (by decide) (by simp only [List.length_cons]; omega)]; rfl
theorem atI_1 {α : Type} {x y : α} {xs : List α} : atI (x :: y :: xs) 1 = some y := by
  rw [atI_nat (by decide) (by simp only [List.length_cons]; omega)]; rfl
theorem atI_2 {α : Type} {x y z : α} {xs : List α} : atI (x :: y :: z :: xs) 2 = some z := by
  rw [atI_nat (by decide) (by simp only [List.length_cons]; omega)]; rfl
theorem atI_3 {α : Type} {x y z u : α} {xs : List α} : atI (x :: y :: z :: u :: xs) 3 = some u := by
  rw [atI_nat (by decide) (by simp only [List.length_cons]; omega)]; rfl
theorem atI_4 {α : Type} {x y z u v : α} {xs : List α} : atI (x :: y :: z :: u :: v :: xs) 4 = some v := by
  rw [atI_nat (by decide) (by simp only [List.length_cons]; omega)]; rfl
theorem atI_5 {α : Type} {x y z u v t : α} {xs : List α} : atI (x :: y :: z :: u :: v :: t :: xs) 5 = some t := by
  rw [atI_nat (by decide) (by simp only [List.length_cons]; omega)]; rfl
def partD : D → Option (Option Int)
  | .int i => some (some i)
  | _ => none
theorem partD_i {i : Int} : partD (.int i) = some (some i) := rfl
theorem part_e : gPart f ρ = (f ρ).bind partD := by
  unfold gPart
  cases f ρ with
  | none => rfl
  | some d => cases d <;> rfl
theorem cut_e {l h : Env → Option (Option Int)} : gCut f l h ρ = (f ρ).bind fun d => (l ρ).bind fun lo => (h ρ).bind fun hi => D.cut lo hi d := by
  unfold gCut
  cases f ρ <;> cases l ρ <;> cases h ρ <;> rfl
theorem cut_to {w : List Nat} {i : Int} (hl : w.length ≤ 1000000) (h : 0 ≤ i) : D.cut none (some i) (.str (SX.S w)) = some (.str (SX.S (w.take i.toNat))) := by
  unfold D.cut
  dsimp only
  rw [if_pos (by rw [SX.S_len]; exact Nat.le_trans hl (by decide)), C8.cutS_slice, SX.slice_to h]
theorem cut_from {w : List Nat} {i : Int} (hl : w.length ≤ 1000000) (h : 0 ≤ i) : D.cut (some i) none (.str (SX.S w)) = some (.str (SX.S (w.drop i.toNat))) := by
  unfold D.cut
  dsimp only
  rw [if_pos (by rw [SX.S_len]; exact Nat.le_trans hl (by decide)), C8.cutS_slice, SX.slice_from h]
theorem int_plain {w : List Nat} (h : w.all (fun c => decide (48 ≤ c) && decide (c ≤ 57)) = true) (hne : w ≠ []) (hl : w.length ≤ 640) : F_int [.str (SX.S w)] = some (.int (NumText.digitsVal w)) := by
  unfold F_int
  dsimp only
  rw [if_pos (by rw [SX.S_len]; exact hl), SX.int_S h hne (by omega)]
  rfl
/-! effects -/
theorem w_raise {k : Str} {Q : Fl → Env → Prop} (h : E k ρ) : WP (sRaise k ρ) Q E := h
theorem w_raiseS {k : Str} {b : Env → O Fl} {Q : Fl → Env → Prop} (h : E k ρ) : WP (sSeq (sRaise k) b ρ) Q E := h
theorem iosOk_ds (ds : List D) : iosOk [] (ds.map .d) = true := by
  unfold iosOk
  rw [List.all_eq_true]
  intro k hk
  rw [List.getElem?_map]
  cases ds[k]? <;> simp
theorem isOf_ds : ∀ ds : List D, isOf (ds.map .d) = []
  | [] => rfl
  | d :: ds => isOf_ds ds
theorem gat_ds : ∀ ds : List D, gat ρ (ds.map .d) = some (ds.map .dat)
  | [] => rfl
  | d :: ds => by rw [List.map_cons, gat, gat_ds ds]; rfl
theorem sca_ds : ∀ (ds : List D) (ρ' : Env), sca ρ (ds.map .d) ρ' = ρ
  | [], ρ' => by cases ρ' <;> rfl
  | d :: ds, [] => rfl
  | d :: ds, x :: ρ' => by rw [List.map_cons, sca, sca_ds ds]
theorem w_call {F : List S → O S} {h : Env → Option (List D)} {ds : List D} {Q : S → Env → Prop} (e : h ρ = some ds) (w : WP (F (ds.map .dat)) (fun s ρ' => ds.length ≤ ρ'.length ∧ Q s ρ) (fun k ρ' => ds.length ≤ ρ'.length ∧ E k ρ)) : WP (fCall [] F (xP h) ρ) Q E := by
  unfold fCall xP
  rw [e]
  dsimp only [O.opt, O.bind, Option.map]
  unfold callF
  rw [iosOk_ds, isOf_ds, gat_ds]
  simp only [List.nodup_nil, decide_true, Bool.and_self, if_true]
  cases hF : F (ds.map .dat) with
  | no => rw [hF] at w; exact w
  | ok s ρ' => rw [hF] at w; dsimp only; rw [if_pos (by rw [List.length_map]; exact w.1), sca_ds]; exact w.2
  | ex k ρ' => rw [hF] at w; dsimp only; rw [if_pos (by rw [List.length_map]; exact w.1), sca_ds]; exact w.2
theorem w_frz {h : Env → O S} (w : WP (h ρ) (fun s ρ' => ∃ d, s.er = some d ∧ Q d ρ') E) : WP (fFrz h ρ) Q E := by
  unfold fFrz
  cases e : h ρ with
  | no => rw [e] at w; exact w
  | ex k ρ' => rw [e] at w; exact w
  | ok s ρ' => rw [e] at w; obtain ⟨d, e2, q⟩ := w; dsimp only [O.bind]; rw [e2]; exact q
theorem w_lD {d : D} (e : f ρ = some d) (q : Q d ρ) : WP (lD f ρ) Q E := by unfold lD; rw [e]; exact q
theorem w_dat {h : Env → O D} {Q : S → Env → Prop} (w : WP (h ρ) (fun d ρ' => Q (.dat d) ρ') E) : WP (fDat h ρ) Q E := by
  unfold fDat
  cases e : h ρ with
  | no => rw [e] at w; exact w
  | ex k ρ' => rw [e] at w; exact w
  | ok s ρ' => rw [e] at w; exact w
theorem w_rt {h : Env → O S} {Q : Fl → Env → Prop} (w : WP (h ρ) (fun s ρ' => Q (.rt s) ρ') E) : WP (sRet h ρ) Q E := by
  unfold sRet
  cases e : h ρ with
  | no => rw [e] at w; exact w
  | ex k ρ' => rw [e] at w; exact w
  | ok s ρ' => rw [e] at w; exact w
theorem w_rtS {h : Env → O S} {b : Env → O Fl} {Q : Fl → Env → Prop} (w : WP (h ρ) (fun s ρ' => Q (.rt s) ρ') E) : WP (sSeq (sRet h) b ρ) Q E :=
  w_cut (R := fun fl ρ' => ∃ s, fl = .rt s ∧ Q (.rt s) ρ') (w_rt (w.imp (fun s ρ' q => ⟨s, rfl, q⟩) fun _ _ h => h)) (fun ρ' ⟨s, e, _⟩ => nomatch e) (fun fl ρ' _ ⟨s, e, q⟩ => e ▸ q)
theorem w_drop {h : Env → O S} {Q : Fl → Env → Prop} (w : WP (h ρ) (fun s ρ' => Q .nx ρ') E) : WP (sDrop h ρ) Q E := by
  unfold sDrop
  cases e : h ρ with
  | no => rw [e] at w; exact w
  | ex k ρ' => rw [e] at w; exact w
  | ok s ρ' => rw [e] at w; exact w
theorem w_setE {i : Nat} {h : Env → O S} {Q : Fl → Env → Prop} (w : WP (h ρ) (fun s ρ' => i < ρ'.length ∧ Q .nx (ρ'.set i (some s))) E) : WP (sSet i h ρ) Q E := by
  unfold sSet
  cases e : h ρ with
  | no => rw [e] at w; exact w
  | ex k ρ' => rw [e] at w; exact w
  | ok s ρ' => rw [e] at w; dsimp only [O.bind]; rw [if_pos w.1]; exact w.2
theorem w_tup {h : Env → O (List D)} (w : WP (h ρ) (fun ds ρ' => ds.length ≤ 1000000 ∧ Q (.tup ds) ρ') E) : WP (fTup h ρ) Q E := by
  unfold fTup
  cases e : h ρ with
  | no => rw [e] at w; exact w
  | ex k ρ' => rw [e] at w; exact w
  | ok s ρ' => rw [e] at w; dsimp only [O.bind]; rw [if_pos (Nat.le_trans w.1 (by decide))]; exact w.2
theorem w_fnil {Q : List D → Env → Prop} (q : Q [] ρ) : WP (fNil ρ) Q E := q
theorem w_fcons {h : Env → O D} {t : Env → O (List D)} {Q : List D → Env → Prop} (w : WP (h ρ) (fun d ρ' => WP (t ρ') (fun ds ρ'' => Q (d :: ds) ρ'') E) E) : WP (fCons h t ρ) Q E := by
  unfold fCons
  cases e : h ρ with
  | no => rw [e] at w; exact w
  | ex k ρ' => rw [e] at w; exact w
  | ok d ρ' =>
    rw [e] at w
    dsimp only [O.bind]
    have w : WP (t ρ') (fun ds ρ'' => Q (d :: ds) ρ'') E := w
    cases e2 : t ρ' with
    | no => rw [e2] at w; exact w
    | ex k ρ' => rw [e2] at w; exact w
    | ok ds ρ' => rw [e2] at w; exact w
theorem wp_ok {α : Type} {o : O α} {a : α} {ρ : Env} {Q : α → Env → Prop} (e : o = .ok a ρ) (q : Q a ρ) : WP o Q E := by rw [e]; exact q
end
end DL
namespace DL
open PySem L2 PyProof.Rows
section
variable {ρ ρ1 : Env} {k f : Str} {ns : List Str} {ss : List S} {s : S} {i : Nat}
theorem fld_e {g : Env → Option S} : gFld k f g ρ = (g ρ).bind fun s => s.fld k f := rfl
theorem fldP_ok {g : Env → O S} (h : g ρ = .ok s ρ1) (ho : ρ1[i]? = some (some (.ins k ns ss))) (hn : ns.length < 1000) (hs : ss.length = ns.length) : sFldP i k f g ρ = .ok .nx (ρ1.set i (some (.ins k (putN f ns) (putL f s ns ss)))) := by
  unfold sFldP
  rw [h]
  dsimp only [O.bind]
  rw [ho]
  dsimp only
  rw [if_pos ⟨rfl, hn, hs⟩]
theorem appF_ok {p : Env → Option D} {d : D} {xs : List D} (h : p ρ = some d) (ho : ρ[i]? = some (some (.ins k ns ss))) (hl : lookS f ns ss = some (lstD xs)) (hs : ss.length = ns.length) (hx : xs.length < 1000000) : sAppF i k f p ρ = .ok .nx (ρ.set i (some (.ins k ns (putL f (lstD (xs ++ [d])) ns ss)))) := by
  unfold sAppF
  rw [ho, h]
  dsimp only
  rw [hl]
  unfold lstD
  dsimp only
  rw [if_pos ⟨rfl, hs, by rw [List.length_map]; exact Nat.lt_of_lt_of_le hx (by decide)⟩]
  simp
theorem make_ok {F : List S → O S} {h : Env → Option (List D)} {ds : List D} {ρ' : Env} (e : h ρ = some ds) (e2 : F (.ins k [] [] :: ds.map .dat) = .ok (.dat .non) (some s :: ρ')) : fMake k F h ρ = .ok s ρ := by
  unfold fMake
  rw [e]
  dsimp only
  rw [e2]
/-- a method whose self is lent, all else data -/
theorem w_meth {m : Str} {F : List S → O S} {h : Env → Option (List D)} {ds : List D} {Q : S → Env → Prop} {E : Str → Env → Prop} (ho : ρ[i]? = some (some (.ins k ns ss))) (hm : m ∉ ns) (e : h ρ = some ds)
    (w : WP (F (.ins k ns ss :: ds.map .dat)) (fun s ρ' => ∃ r ρ'', ρ' = r :: ρ'' ∧ ds.length ≤ ρ''.length ∧ Q s (ρ.set i r)) (fun k ρ' => ∃ r ρ'', ρ' = r :: ρ'' ∧ ds.length ≤ ρ''.length ∧ E k (ρ.set i r))) : WP (fMeth i k m [0] F (xP h) ρ) Q E := by
  unfold fMeth xP
  rw [ho]
  dsimp only
  rw [if_pos ⟨rfl, hm⟩, e]
  dsimp only [O.opt, O.bind, Option.map]
  unfold callF
  have h1 : iosOk [0] (.io i :: ds.map .d) = true := by
    unfold iosOk
    rw [List.all_eq_true]
    intro j hj
    cases j with
    | zero => simp
    | succ j =>
      rw [List.getElem?_cons_succ, List.getElem?_map]
      cases ds[j]? <;> simp
  have h2 : isOf (.io i :: ds.map .d) = [i] := by rw [isOf, isOf_ds]
  have h3 : gat ρ (.io i :: ds.map .d) = some (.ins k ns ss :: ds.map .dat) := by rw [gat, ho, gat_ds]
  rw [h1, h2, h3]
  simp only [List.nodup_cons, List.not_mem_nil, not_false_eq_true, List.nodup_nil, and_self, decide_true, Bool.and_self, if_true]
  cases hF : F (.ins k ns ss :: ds.map .dat) with
  | no => rw [hF] at w; exact w
  | ok s ρ' =>
    rw [hF] at w
    obtain ⟨r, ρ'', rfl, hl, q⟩ := w
    dsimp only
    rw [if_pos (by simpa using hl), sca, sca_ds]
    exact q
  | ex s ρ' =>
    rw [hF] at w
    obtain ⟨r, ρ'', rfl, hl, q⟩ := w
    dsimp only
    rw [if_pos (by simpa using hl), sca, sca_ds]
    exact q
theorem mvF_ok {d : D} (ho : ρ[i]? = some (some (.ins k ns ss))) (hl : lookS f ns ss = some s) (hd : s.er = some d) (hs : ss.length = ns.length) : fMvF i k f ρ = .ok d (ρ.set i (some (.ins k ns (putL f (.dat d) ns ss)))) := by
  unfold fMvF
  rw [ho]
  dsimp only
  rw [hl]
  dsimp only
  rw [hd]
  dsimp only
  rw [if_pos ⟨rfl, hs⟩]
end
end DL
namespace DL
open PySem L2 PyProof.Rows
theorem seq_ok {b g : Env → O Fl} {ρ ρ1 : Env} (h : b ρ = .ok .nx ρ1) : sSeq b g ρ = g ρ1 := by unfold sSeq; rw [h]
def isEd (a : Addr) (b : Bool) : D → Option D
  | .ref a' => if a' = a then some (.bl b) else none
  | _ => none
theorem isEd_r {a : Addr} {b : Bool} : isEd a b (.ref a) = some (.bl b) := if_pos rfl
theorem isE_e {a : Addr} {b : Bool} {f : Env → Option D} {ρ : Env} : gIsE a b f ρ = (f ρ).bind (isEd a b) := by
  unfold gIsE
  cases f ρ with
  | none => rfl
  | some d => cases d <;> rfl
theorem w_tryAs {i : Nat} {hit : Str → Option Bool} {body : Env → O Fl} {suite : Addr → Str → Env → O Fl} {ρ : Env} {Q : Fl → Env → Prop} {E : Str → Env → Prop}
    (w : WP (body ρ) Q (fun k ρ' => hit k = some true ∧ i < ρ'.length ∧ WP (unsetO i (suite 0 k (ρ'.set i (some (.dat (.ref 0)))))) Q E)) : WP (sTryAs i hit body suite ρ) Q E := by
  unfold sTryAs
  cases e : body ρ with
  | no => rw [e] at w; exact w
  | ok a ρ' => rw [e] at w; exact w
  | ex k ρ' =>
    rw [e] at w
    obtain ⟨h1, h2, h3⟩ := w
    dsimp only
    rw [h1]
    dsimp only
    rw [if_pos h2]
    exact h3
end DL
namespace DL
open PySem L2 PyProof.Rows
theorem cutD_to {ds : List D} {i : Int} (h : 0 ≤ i) : cutD ds none (some i) = ds.take i.toNat := by
  unfold cutD
  have h1 : HT.sIx ds.length 0 none = 0 := rfl
  rw [h1]
  have h2 : HT.sIx ds.length ds.length (some i) = min i.toNat ds.length := by
    unfold HT.sIx
    simp
    omega
  rw [h2]
  simp only [List.drop_zero, Nat.sub_zero]
  exact (List.take_eq_take_min ..).symm
theorem lcut_e {f : Env → Option (List D)} {l h : Env → Option (Option Int)} {ρ : Env} : gLcut f l h ρ = (f ρ).bind fun ds => (l ρ).bind fun lo => (h ρ).bind fun hi => some (cutD ds lo hi) := by
  unfold gLcut
  cases f ρ <;> cases l ρ <;> cases h ρ <;> rfl
theorem strs_S : ∀ ws : List (List Nat), D.strs (ws.map fun w => .str (SX.S w)) = some (ws.map SX.S)
  | [] => rfl
  | w :: ws => by
    rw [List.map_cons, D.strs, strs_S ws]; rfl
theorem sum_le : ∀ {ns : List Nat} {m : Nat}, (∀ n ∈ ns, n ≤ m) → ns.sum ≤ ns.length * m
  | [], m, _ => by simp
  | n :: ns, m, h => by
    have h1 := h n List.mem_cons_self
    have h2 := sum_le fun x hx => h x (List.mem_cons_of_mem _ hx)
    rw [List.sum_cons, List.length_cons, Nat.add_mul]
    omega
theorem join_ok {f : Env → Option D} {g : Env → Option (List D)} {ρ : Env} {c : Nat} {ws : List (List Nat)} (h1 : f ρ = some (.str (SX.S [c]))) (h2 : g ρ = some (ws.map fun w => .str (SX.S w))) (hl : ws.length ≤ 1000) (hw : ∀ w ∈ ws, w.length ≤ 10000) :
    gJoin f g ρ = some (.str (SX.S (TL.joinL [c] ws))) := by
  unfold gJoin
  rw [h1, h2]
  dsimp only
  rw [strs_S]
  dsimp only
  rw [SX.join_S, if_pos]
  rw [SX.lens, List.length_map]
  have := sum_le (ns := ws.map (·.length)) (m := 10000) fun n hn => by
    obtain ⟨w, hw', rfl⟩ := List.mem_map.mp hn
    exact hw w hw'
  rw [List.length_map] at this
  rw [SX.S_len]
  simp only [List.length_cons, List.length_nil]
  omega
theorem ne_bls {as bs : List Bool} : D.ne (.lst (as.map .bl)) (.lst (bs.map .bl)) = some (.bl (!decide (as = bs))) := by
  unfold D.ne; rw [eqb_bls]; rfl
theorem str_s {a : Str} : F_str [.str a] = some (.str a) := rfl
end DL

/-! DLs: the end. -/
namespace DL
open PySem L2 PyProof.Rows
def caOf (t : List (Str × Addr)) : Str → Addr := fun k => (t.lookup k).getD 0
theorem fm_nil {α : Type} {P : α → Prop} : ∀ k ∈ ([] : List α), P k := fun _ h => nomatch h
theorem fm_cons {α : Type} {P : α → Prop} {a : α} {l : List α} (h : P a) (t : ∀ k ∈ l, P k) : ∀ k ∈ a :: l, P k := fun k hk => by
  rcases List.mem_cons.mp hk with rfl | hk
  · exact h
  · exact t k hk
theorem exm_of {K : PySem.W.Frag} {C S : Addr} (h1 : PySem.W.subIn K (.ref S) (.type "BaseException") = some true) (h2 : PySem.W.isClsIn K S = true) (h3 : PySem.W.typeIn K (.ref S) = some (.type "type")) (h4 : PySem.W.subIn K (.ref C) (.ref S) = some true) :
    PySem.W.exmOne K (.ref C) (.ref S) = some true := by
  have e1 : (PySem.W.subIn K (.ref S) (.type "BaseException") == some true) = true := by rw [h1] <;> rfl
  have e2 : ((PySem.W.clsIn K S).isSome && PySem.W.typeIn K (.ref S) == some (.type "type")) = true := by
    have h2' : (PySem.W.clsIn K S).isSome = true := h2
    rw [h2', h3] <;> rfl
  show (if (PySem.W.subIn K (.ref S) (.type "BaseException") == some true) = true then (if ((PySem.W.clsIn K S).isSome && PySem.W.typeIn K (.ref S) == some (.type "type")) = true then PySem.W.subIn K (.ref C) (.ref S) else none) else none) = some true
  rw [if_pos e1, if_pos e2]
  exact h4
/-- a constant tuple of texts that the top has written -/
theorem tr_strT {K : PySem.W.Frag} {a : Addr} {od : Option Addr} {sl : Array (Option Value)} {its : Array Value} {n : Nat} {ws : List Str} (h : K.lookup a = some ⟨.type "tuple", od, .seq its n, sl⟩) (hs : its.size ≤ sizeLine) (hv : Vals (ws.map V.str) its.toList) : ∀ H, TR K H (.tup (ws.map .str)) (.ref a) := fun H => by
  rw [TR]
  exact ⟨a, ws.map V.str, rfl, .inr ⟨_, its, n, h, rfl, rfl, hs, hv⟩, trs_strs ws⟩
def spLaw (K : PySem.W.Frag) : Sp := fun vs H Q _ => ∃ (a : Addr) (ns : List Int), vs = [.ref a] ∧ ns.length ≤ 63 ∧ SqL K H a (ns.map V.int) ∧ Only H ∧ ∀ H', Q (.bl true) H'
theorem trs_ints {K : PySem.W.Frag} {H : Hp} : ∀ ns : List Int, TRs K H (ns.map .int) (ns.map V.int)
  | [] => trs_nil
  | n :: ns => trs_cons (by rw [TR]) (trs_ints ns)
theorem law_sp {K : PySem.W.Frag} {ca : Str → Addr} {F : List S → O S} (hF : ∀ ns : List Int, ns.length ≤ 63 → ∃ ρ, F [.dat (.lst (ns.map .int))] = .ok (.dat (.bl true)) ρ) : ∀ vs H Q E, spLaw K vs H Q E → spF ⟨K, ca⟩ 1 [] F vs H Q E := by
  rintro vs H Q E ⟨a, ns, rfl, hl, hs, hO, q⟩
  obtain ⟨ρ, e⟩ := hF ns hl
  refine ⟨rfl, fun _ => False, fun _ => False, [.dat (.lst (ns.map .int))], ?_, ?_⟩
  · refine ⟨rfl, ⟨fun _ _ => False, fun j s e => ?_, fun _ _ _ z => z.elim, fun _ _ z => z.elim⟩, fun a h => h, fun a h => h.elim, fun p hp => by simp [pinsOf] at hp⟩
    cases j with
    | zero =>
      cases e
      refine ⟨.ref a, rfl, or_dat ?_⟩
      rw [TR]
      refine ⟨a, ns.map V.int, rfl, ?_, trs_ints ns⟩
      exact seqL_mono (Rx.of_same fun b o hb => by rw [mask_out (fun z => z)]; exact hb) hs
    | succ j => simp at e
  · rw [e]
    intro v σ' H' M' B g' dB r fr
    rw [OR, TR] at r
    subst r
    exact q H'
theorem walkDL {l : PySem.W.OpenLaw} {k : Nat} {q : Program} {loose : List Str} {XP : (Str → Option Value) → Heap → Prop} {YP : World → Heap → Prop} {d : DefRec} {K : Params → PySem.W.Frag} (hr : Room k callerA) (hn : l.most = some 63) (hdf : d.params.defaults = [])
    (hY : ∀ (w : World) (h : Heap), YP w h → (K w.params).In h)
    (F : ∀ (w : World) (mg : Str → Option Value) (fa : Addr) (h : Heap), (K w.params).In h → h.Ns mainGlobals mg → mg d.name = some (.ref fa) →
      ∃ fd : FuncData, (∀ (s : Shared) (u : Value), BindsTo s fd ⟨[u], []⟩ [("script", u)]) ∧ ∀ base : Heap, (K w.params).In base → base.Ns mainGlobals mg → FnOk l.prog w (K w.params) mg base (L2.CX l.prog w) k fa fd ["script"] (spLaw (K w.params))) :
    PySem.W.WalkO q loose XP YP l.row.toRowW d [] (fun f vs => PySem.call f vs) :=
  L2.walk_of (n := 63) (k := k) (x := "script") (CX := fun w => L2.CX l.prog w) (sp := fun w => spLaw (K w.params)) hn (by decide) hdf hr hY F (fun _ _ a ns hl hO hS => ⟨a, ns, rfl, hl, hS, hO, fun _ => rfl⟩) fun _ _ _ _ _ z => by
    obtain ⟨_, _, _, _, _, _, _, _, _, _, _, _, z⟩ := z
    exact z
end DL

/-! printed by gen.py from the row's own text: mirrors and derivations -/
namespace Q
open PySem L2 PyProof.Rows DL
def topS (k : Nat) : PySem.Stmt := (PySem.Challenge.pw_sayswho_k10_boxes_and_measures.main.body).getD k (.Pass ⟨0, 0, 0, 0⟩)
structure BIT (mg : Str → Option Value) : Prop where
  ValueError : mg "ValueError" = none
  int : mg "int" = none
  isinstance : mg "isinstance" = none
  len : mg "len" = none
  max : mg "max" = none
  min : mg "min" = none
  range : mg "range" = none
  str : mg "str" = none
def G_BARRED : D := .tup [.str "box", .str "mark", .str "ask", .str "put", .str "go", .str "if", .str "stop", .str "in", .str "not"]
structure GLT (K : PySem.W.Frag) (mg : Str → Option Value) : Prop where
  BARRED : ∃ a, mg "BARRED" = some (.ref a) ∧ ∀ H, TR K H G_BARRED (.ref a)
  FARTHEST : ∃ t, mg "FARTHEST" = some (.int 99 t)
  FIGURES : ∃ t, mg "FIGURES" = some (.str "0123456789" t)
  LETTERS : ∃ t, mg "LETTERS" = some (.str "abcdefghijklmnopqrstuvwxyz" t)
  LONGEST_NAME : ∃ t, mg "LONGEST_NAME" = some (.int 8 t)
  LONGEST_NUMBER : ∃ t, mg "LONGEST_NUMBER" = some (.int 3 t)
  MOST_BOXES : ∃ t, mg "MOST_BOXES" = some (.int 4 t)
  MOST_ROWS : ∃ t, mg "MOST_ROWS" = some (.int 60 t)
  MOST_VALUES : ∃ t, mg "MOST_VALUES" = some (.int 400 t)
  WIDEST : ∃ t, mg "WIDEST" = some (.int 19 t)
structure CT_Reading (K : PySem.W.Frag) (mg : Str → Option Value) (ca : Str → Addr) : Prop where
  cls : Cls K (ca "Reading")
  mg : mg "Reading" = some (.ref (ca "Reading"))
  makes : PySem.W.makesIn K (ca "Reading") = true
  kp : PySem.W.keepIn K (.ref (ca "Reading")) = true
  n_boxes : NoAttr K (ca "Reading") "boxes"
  n_many : NoAttr K (ca "Reading") "many"
  n_marks : NoAttr K (ca "Reading") "marks"
  n_names : NoAttr K (ca "Reading") "names"
  n_told : NoAttr K (ca "Reading") "told"
theorem CT_Reading.mk_ {K : PySem.W.Frag} {mg : Str → Option Value} {ca : Str → Addr} {a : Addr} (T : CT_Reading K mg ca) (h : Meth K (ca "Reading") "__init__" a) : Mk K (ca "Reading") a := ⟨T.makes, h.at_, h.fn, T.kp⟩
abbrev st_is_name : PySem.Stmt := topS 22
theorem sc_is_name : FnScope ["word", "sign"] ["word"] (defScope st_is_name) := ⟨rfl, rfl, rfl, by decide +kernel, rfl, by decide +kernel, by decide +kernel⟩
def b_is_name : DL.Env → O Fl := sSeq (sIf (lT (gOr (gNot (gTst (gChain D.le D.le (gC (.int 1)) (gCall1 F_len (gVar 0)) (gC (.int 8))))) (gCmp D.isIn (gVar 0) (gC G_BARRED)))) (sRet (fDat (lD (gC (.bl false))))) (sNx))
    (sRet (fDat (lD (gBl (gCmp D.eq (asL (gComp (fun ρ => ((gOwn 0) ρ).bind S.walk) (([("sign", 1)] : List (Str × Nat)).map (·.2)) (hName 1) (gCmp D.notIn (gVar 1) (gC (.str "abcdefghijklmnopqrstuvwxyz"))) (gVar 1))) (asL (gLst (gNil))))))))
def F_is_name : List S → O S := runF 1 b_is_name
theorem ok_is_name {P : Program} {w : World} {K : PySem.W.Frag} {mg : Str → Option Value} {base : Heap} {ca : Str → Addr} {a : Addr} {fd : FuncData} (FU : Fun K "is_name" "is_name" st_is_name a fd)
  (BI : BIT mg) (GL : GLT K mg) :
  FnOk P w K mg base (L2.CX P w) 1 a fd ["word"] (spF ⟨K, ca⟩ 1 [] F_is_name) :=
  fn_ok FU sc_is_name fun cdv A outer s H E hr => by
  have hp : PassesOwn (model P w) (cxOf (L2.CX P w) P w K mg base ["word", "sign"] "is_name" (defScope st_is_name) a cdv A outer s H E).A (cxOf (L2.CX P w) P w K mg base ["word", "sign"] "is_name" (defScope st_is_name) a cdv A outer s H E).env (cxOf (L2.CX P w) P w K mg base ["word", "sign"] "is_name" (defScope st_is_name) a cdv A outer s H E).xe := passes_of (X := cxOf (L2.CX P w) P w K mg base ["word", "sign"] "is_name" (defScope st_is_name) a cdv A outer s H E) rfl
  have tk : Takes (cxOf (L2.CX P w) P w K mg base ["word", "sign"] "is_name" (defScope st_is_name) a cdv A outer s H E) (fun cls d _ H => E cls d H) := takes_of rfl rfl rfl rfl
  exact dss_cons (ds_if (((dpw_or (dpt_not (dpt_chain od_le od_le (dp_int) (dp_call1 (cd_len (by rfl)) (by rfl) BI.len (by decide +kernel) ((dp_var (pv 0)).du)) (gp_int GL.LONGEST_NAME (by rfl)))) (dpw_or1 (dpt_cmp (od_in (by rfl) (u65 hr)) ((dp_var (pv 0)).du) ((gp_ref GL.BARRED (by rfl)).du) (by rfl)))).dpt).dt) (dss_one (ds_ret (((dp_bl).dd).de))) (dss_nil))
    (dss_one (ds_ret (((dp_cmpU (od_eq (by rfl) (u64 hr)) (((dl_comp (own := [("sign", 1)]) rfl sc_is_name.nd (dip_seq (by rfl) (db_var (pv 0))) (blkOk_by (by first | decide +kernel | rfl)) (by decide) (fun _ _ _ _ _ => dg_name (pg_name sc_is_name.nd rfl (by first | exact Or.inl rfl | exact Or.inr rfl))) (fun _ _ _ _ _ => dpts_one (dpt_cmp (od_notIn (by rfl) (u65 hr)) ((dp_var (pv 1)).du) ((gp_str GL.LETTERS (by rfl)).du) (by rfl))) (fun _ _ _ _ _ => dp_var (pv 1))).dp).du) (((dl_lst (dpa_nil)).dp).du) (nomark _)).dd).de)))
abbrev st_is_plain_number : PySem.Stmt := topS 23
theorem sc_is_plain_number : FnScope ["word", "sign"] ["word"] (defScope st_is_plain_number) := ⟨rfl, rfl, rfl, by decide +kernel, rfl, by decide +kernel, by decide +kernel⟩
def b_is_plain_number : DL.Env → O Fl := sSeq (sIf (lT (gOr (gNot (gTst (gChain D.le D.le (gC (.int 1)) (gCall1 F_len (gVar 0)) (gC (.int 3))))) (gAnd (gCmp D.eq (asU (gIx (gOwn 0) (gC (.int 0)))) (gC (.str "0"))) (gCmp D.ne (gVar 0) (gC (.str "0")))))) (sRet (fDat (lD (gC (.bl false))))) (sNx))
    (sRet (fDat (lD (gBl (gCmp D.eq (asL (gComp (fun ρ => ((gOwn 0) ρ).bind S.walk) (([("sign", 1)] : List (Str × Nat)).map (·.2)) (hName 1) (gCmp D.notIn (gVar 1) (gC (.str "0123456789"))) (gVar 1))) (asL (gLst (gNil))))))))
def F_is_plain_number : List S → O S := runF 1 b_is_plain_number
theorem ok_is_plain_number {P : Program} {w : World} {K : PySem.W.Frag} {mg : Str → Option Value} {base : Heap} {ca : Str → Addr} {a : Addr} {fd : FuncData} (FU : Fun K "is_plain_number" "is_plain_number" st_is_plain_number a fd)
  (BI : BIT mg) (GL : GLT K mg) :
  FnOk P w K mg base (L2.CX P w) 1 a fd ["word"] (spF ⟨K, ca⟩ 1 [] F_is_plain_number) :=
  fn_ok FU sc_is_plain_number fun cdv A outer s H E hr => by
  have hp : PassesOwn (model P w) (cxOf (L2.CX P w) P w K mg base ["word", "sign"] "is_plain_number" (defScope st_is_plain_number) a cdv A outer s H E).A (cxOf (L2.CX P w) P w K mg base ["word", "sign"] "is_plain_number" (defScope st_is_plain_number) a cdv A outer s H E).env (cxOf (L2.CX P w) P w K mg base ["word", "sign"] "is_plain_number" (defScope st_is_plain_number) a cdv A outer s H E).xe := passes_of (X := cxOf (L2.CX P w) P w K mg base ["word", "sign"] "is_plain_number" (defScope st_is_plain_number) a cdv A outer s H E) rfl
  have tk : Takes (cxOf (L2.CX P w) P w K mg base ["word", "sign"] "is_plain_number" (defScope st_is_plain_number) a cdv A outer s H E) (fun cls d _ H => E cls d H) := takes_of rfl rfl rfl rfl
  exact dss_cons (ds_if (((dpw_or (dpt_not (dpt_chain od_le od_le (dp_int) (dp_call1 (cd_len (by rfl)) (by rfl) BI.len (by decide +kernel) ((dp_var (pv 0)).du)) (gp_int GL.LONGEST_NUMBER (by rfl)))) (dpw_or1 ((dpw_and (dpt_cmp (od_eq (by rfl) (u64 hr)) ((db_ix (by rfl) (db_var (pv 0)) (dp_int) (fun _ _ => rfl)).du) ((dp_str).du) (nomark _)) (dpw_and1 (dpt_cmp (od_ne (by rfl) (u64 hr)) ((dp_var (pv 0)).du) ((dp_str).du) (nomark _)))).dpt))).dpt).dt) (dss_one (ds_ret (((dp_bl).dd).de))) (dss_nil))
    (dss_one (ds_ret (((dp_cmpU (od_eq (by rfl) (u64 hr)) (((dl_comp (own := [("sign", 1)]) rfl sc_is_plain_number.nd (dip_seq (by rfl) (db_var (pv 0))) (blkOk_by (by first | decide +kernel | rfl)) (by decide) (fun _ _ _ _ _ => dg_name (pg_name sc_is_plain_number.nd rfl (by first | exact Or.inl rfl | exact Or.inr rfl))) (fun _ _ _ _ _ => dpts_one (dpt_cmp (od_notIn (by rfl) (u65 hr)) ((dp_var (pv 1)).du) ((gp_str GL.FIGURES (by rfl)).du) (by rfl))) (fun _ _ _ _ _ => dp_var (pv 1))).dp).du) (((dl_lst (dpa_nil)).dp).du) (nomark _)).dd).de)))
abbrev st_number_of : PySem.Stmt := topS 24
theorem sc_number_of : FnScope ["word"] ["word"] (defScope st_number_of) := ⟨rfl, rfl, rfl, by decide +kernel, rfl, by decide +kernel, by decide +kernel⟩
def b_number_of : DL.Env → O Fl := sSeq (sIf (lT (gTst (gCallF F_is_plain_number (gCons (gVar 0) (gNil))))) (sRet (fDat (lD (gCall F_int (gCons (gVar 0) (gNil)))))) (sNx))
    (sSeq (sIf (lT (gAnd (gCmp D.eq (gCut (gVar 0) (fun _ => some none) (gPart (gC (.int 1)))) (gC (.str "-"))) (gAnd (gCmp D.ne (gVar 0) (gC (.str "-0"))) (gTst (gCallF F_is_plain_number (gCons (gCut (gVar 0) (gPart (gC (.int 1))) (fun _ => some none)) (gNil))))))) (sRet (fDat (lD (gBin D.sub (gC (.int 0)) (gCall F_int (gCons (gCut (gVar 0) (gPart (gC (.int 1))) (fun _ => some none)) (gNil))))))) (sNx))
    (sRaise "NoRow"))
def F_number_of : List S → O S := runF 0 b_number_of
theorem ok_number_of {P : Program} {w : World} {K : PySem.W.Frag} {mg : Str → Option Value} {base : Heap} {ca : Str → Addr} {a : Addr} {fd : FuncData} (FU : Fun K "number_of" "number_of" st_number_of a fd)
  (BI : BIT mg) (XK_NoRow : ExcAt K mg ca "NoRow") {a_is_plain_number : Addr} {fd_is_plain_number : FuncData} (G_is_plain_number : DefOk P w K mg base ⟨K, ca⟩ 1 "is_plain_number" "is_plain_number" st_is_plain_number ["word"] [] F_is_plain_number a_is_plain_number fd_is_plain_number) :
  FnOk P w K mg base (L2.CX P w) 2 a fd ["word"] (spF ⟨K, ca⟩ 1 [] F_number_of) :=
  fn_ok FU sc_number_of fun cdv A outer s H E hr => by
  have hp : PassesOwn (model P w) (cxOf (L2.CX P w) P w K mg base ["word"] "number_of" (defScope st_number_of) a cdv A outer s H E).A (cxOf (L2.CX P w) P w K mg base ["word"] "number_of" (defScope st_number_of) a cdv A outer s H E).env (cxOf (L2.CX P w) P w K mg base ["word"] "number_of" (defScope st_number_of) a cdv A outer s H E).xe := passes_of (X := cxOf (L2.CX P w) P w K mg base ["word"] "number_of" (defScope st_number_of) a cdv A outer s H E) rfl
  have tk : Takes (cxOf (L2.CX P w) P w K mg base ["word"] "number_of" (defScope st_number_of) a cdv A outer s H E) (fun cls d _ H => E cls d H) := takes_of rfl rfl rfl rfl
  exact dss_cons (ds_if ((dpt_val (dp_callF G_is_plain_number.ok (hr.mono (by decide)) (by rfl) G_is_plain_number.loc.mg G_is_plain_number.loc.fn.kp G_is_plain_number.loc.bi (dpa_cons (dp_var (pv 0)) (dpa_nil)) (gl_cons (gl_nil)))).dt) (dss_one (ds_ret (((dp_callT cd_int (by rfl) BI.int (by decide +kernel) (dpa_cons (dp_var (pv 0)) (dpa_nil))).dd).de))) (dss_nil))
    (dss_cons (ds_if (((dpw_and (dpt_cmp (od_eq (by rfl) (u64 hr)) ((dp_cut (by rfl) (dp_var (pv 0)) (do_none) (do_some (dp_int))).du) ((dp_str).du) (nomark _)) (dpw_and (dpt_cmp (od_ne (by rfl) (u64 hr)) ((dp_var (pv 0)).du) ((dp_str).du) (nomark _)) (dpw_and1 (dpt_val (dp_callF G_is_plain_number.ok (hr.mono (by decide)) (by rfl) G_is_plain_number.loc.mg G_is_plain_number.loc.fn.kp G_is_plain_number.loc.bi (dpa_cons (dp_cut (by rfl) (dp_var (pv 0)) (do_some (dp_int)) (do_none)) (dpa_nil)) (gl_cons (gl_nil))))))).dpt).dt) (dss_one (ds_ret (((dp_bin od_sub (dp_int) (dp_callT cd_int (by rfl) BI.int (by decide +kernel) (dpa_cons (dp_cut (by rfl) (dp_var (pv 0)) (do_some (dp_int)) (do_none)) (dpa_nil)))).dd).de))) (dss_nil))
    (dss_one (ds_raise rfl tk PySem.F.excBase_ValueError XK_NoRow.ex XK_NoRow.mg XK_NoRow.kp (raises_own XK_NoRow.be XK_NoRow.ty) rfl)))
abbrev st_named : PySem.Stmt := topS 34
theorem sc_named : FnScope ["word"] ["word"] (defScope st_named) := ⟨rfl, rfl, rfl, by decide +kernel, rfl, by decide +kernel, by decide +kernel⟩
def b_named : DL.Env → O Fl := sSeq (sIf (lT (gNot (gTst (gCallF F_is_name (gCons (gVar 0) (gNil)))))) (sRaise "NoRow") (sNx))
    (sRet (fDat (lD (gVar 0))))
def F_named : List S → O S := runF 0 b_named
theorem ok_named {P : Program} {w : World} {K : PySem.W.Frag} {mg : Str → Option Value} {base : Heap} {ca : Str → Addr} {a : Addr} {fd : FuncData} (FU : Fun K "named" "named" st_named a fd)
  (XK_NoRow : ExcAt K mg ca "NoRow") {a_is_name : Addr} {fd_is_name : FuncData} (G_is_name : DefOk P w K mg base ⟨K, ca⟩ 1 "is_name" "is_name" st_is_name ["word"] [] F_is_name a_is_name fd_is_name) :
  FnOk P w K mg base (L2.CX P w) 2 a fd ["word"] (spF ⟨K, ca⟩ 1 [] F_named) :=
  fn_ok FU sc_named fun cdv A outer s H E hr => by
  have hp : PassesOwn (model P w) (cxOf (L2.CX P w) P w K mg base ["word"] "named" (defScope st_named) a cdv A outer s H E).A (cxOf (L2.CX P w) P w K mg base ["word"] "named" (defScope st_named) a cdv A outer s H E).env (cxOf (L2.CX P w) P w K mg base ["word"] "named" (defScope st_named) a cdv A outer s H E).xe := passes_of (X := cxOf (L2.CX P w) P w K mg base ["word"] "named" (defScope st_named) a cdv A outer s H E) rfl
  have tk : Takes (cxOf (L2.CX P w) P w K mg base ["word"] "named" (defScope st_named) a cdv A outer s H E) (fun cls d _ H => E cls d H) := takes_of rfl rfl rfl rfl
  exact dss_cons (ds_if ((dpt_not (dpt_val (dp_callF G_is_name.ok (hr.mono (by decide)) (by rfl) G_is_name.loc.mg G_is_name.loc.fn.kp G_is_name.loc.bi (dpa_cons (dp_var (pv 0)) (dpa_nil)) (gl_cons (gl_nil))))).dt) (dss_one (ds_raise rfl tk PySem.F.excBase_ValueError XK_NoRow.ex XK_NoRow.mg XK_NoRow.kp (raises_own XK_NoRow.be XK_NoRow.ty) rfl)) (dss_nil))
    (dss_one (ds_ret (((dp_var (pv 0)).dd).de)))
abbrev st_row_told : PySem.Stmt := topS 36
theorem sc_row_told : FnScope ["row", "words"] ["row"] (defScope st_row_told) := ⟨rfl, rfl, rfl, by decide +kernel, rfl, by decide +kernel, by decide +kernel⟩
def b_row_told : DL.Env → O Fl := sSeq (sSet 1 (fDat (lD (asL (gSplit (gVar 0) (gC (.str " ")))))))
    (sSeq (sIf (lT (gAnd (gCmp D.eq (asU (gIx (gOwn 1) (gC (.int 0)))) (gC (.str "box"))) (gCmp D.eq (gCall1 F_len (gVar 1)) (gC (.int 5))))) (sRet (fDat (fTup (fCons (lD (gC (.str "box"))) (fCons (fFrz (fCall [] F_named (xP (gCons (asD (gIx (gOwn 1) (gC (.int 1)))) (gNil))))) (fCons (fFrz (fCall [] F_number_of (xP (gCons (asD (gIx (gOwn 1) (gC (.int 2)))) (gNil))))) (fCons (fFrz (fCall [] F_number_of (xP (gCons (asD (gIx (gOwn 1) (gC (.int 3)))) (gNil))))) (fCons (fFrz (fCall [] F_number_of (xP (gCons (asD (gIx (gOwn 1) (gC (.int 4)))) (gNil))))) (fNil))))))))) (sNx))
    (sSeq (sNo)
    (sSeq (sNo)
    (sSeq (sNo)
    (sSeq (sNo)
    (sNo))))))
def F_row_told : List S → O S := runF 1 b_row_told
theorem ok_row_told {P : Program} {w : World} {K : PySem.W.Frag} {mg : Str → Option Value} {base : Heap} {ca : Str → Addr} {a : Addr} {fd : FuncData} (FU : Fun K "row_told" "row_told" st_row_told a fd)
  (BI : BIT mg) {a_named : Addr} {fd_named : FuncData} (G_named : DefOk P w K mg base ⟨K, ca⟩ 2 "named" "named" st_named ["word"] [] F_named a_named fd_named) {a_number_of : Addr} {fd_number_of : FuncData} (G_number_of : DefOk P w K mg base ⟨K, ca⟩ 2 "number_of" "number_of" st_number_of ["word"] [] F_number_of a_number_of fd_number_of) :
  FnOk P w K mg base (L2.CX P w) 3 a fd ["row"] (spF ⟨K, ca⟩ 1 [] F_row_told) :=
  fn_ok FU sc_row_told fun cdv A outer s H E hr => by
  have hp : PassesOwn (model P w) (cxOf (L2.CX P w) P w K mg base ["row", "words"] "row_told" (defScope st_row_told) a cdv A outer s H E).A (cxOf (L2.CX P w) P w K mg base ["row", "words"] "row_told" (defScope st_row_told) a cdv A outer s H E).env (cxOf (L2.CX P w) P w K mg base ["row", "words"] "row_told" (defScope st_row_told) a cdv A outer s H E).xe := passes_of (X := cxOf (L2.CX P w) P w K mg base ["row", "words"] "row_told" (defScope st_row_told) a cdv A outer s H E) rfl
  have tk : Takes (cxOf (L2.CX P w) P w K mg base ["row", "words"] "row_told" (defScope st_row_told) a cdv A outer s H E) (fun cls d _ H => E cls d H) := takes_of rfl rfl rfl rfl
  exact dss_cons (ds_set sc_row_told.nd rfl (by first | exact Or.inl rfl | exact Or.inr rfl) (by decide) ((((dl_split (dp_var (pv 0)) (dp_str)).dp).dd).de))
    (dss_cons (ds_if (((dpw_and (dpt_cmp (od_eq (by rfl) (u64 hr)) ((db_ix (by rfl) (db_var (pv 1)) (dp_int) (fun _ _ => rfl)).du) ((dp_str).du) (nomark _)) (dpw_and1 (dpt_cmp (od_eq (by rfl) (u64 hr)) ((dp_call1 (cd_len (by rfl)) (by rfl) BI.len (by decide +kernel) ((dp_var (pv 1)).du)).du) ((dp_int).du) (nomark _)))).dpt).dt) (dss_one (ds_ret ((dd_tup (da_cons ((dp_str).dd) (da_cons ((de_call G_named.ok tk (hr.mono (by decide)) (by rfl) G_named.loc.mg G_named.loc.fn.kp G_named.loc.bi ((dpa_cons ((db_ix (by rfl) (db_var (pv 1)) (dp_int) (fun _ _ => rfl)).dp) (dpa_nil)).dx) (xl_p (gl_cons (gl_nil)))).dd) (da_cons ((de_call G_number_of.ok tk (hr.mono (by decide)) (by rfl) G_number_of.loc.mg G_number_of.loc.fn.kp G_number_of.loc.bi ((dpa_cons ((db_ix (by rfl) (db_var (pv 1)) (dp_int) (fun _ _ => rfl)).dp) (dpa_nil)).dx) (xl_p (gl_cons (gl_nil)))).dd) (da_cons ((de_call G_number_of.ok tk (hr.mono (by decide)) (by rfl) G_number_of.loc.mg G_number_of.loc.fn.kp G_number_of.loc.bi ((dpa_cons ((db_ix (by rfl) (db_var (pv 1)) (dp_int) (fun _ _ => rfl)).dp) (dpa_nil)).dx) (xl_p (gl_cons (gl_nil)))).dd) (da_cons ((de_call G_number_of.ok tk (hr.mono (by decide)) (by rfl) G_number_of.loc.mg G_number_of.loc.fn.kp G_number_of.loc.bi ((dpa_cons ((db_ix (by rfl) (db_var (pv 1)) (dp_int) (fun _ _ => rfl)).dp) (dpa_nil)).dx) (xl_p (gl_cons (gl_nil)))).dd) (da_nil))))))).de))) (dss_nil))
    (dss_cons (ds_never)
    (dss_cons (ds_never)
    (dss_cons (ds_never)
    (dss_cons (ds_never)
    (dss_one (ds_never)))))))
abbrev st_Reading___init__ : PySem.Stmt := inClass (topS 39) 0
theorem sc_Reading___init__ : FnScope ["self"] ["self"] (defScope st_Reading___init__) := ⟨rfl, rfl, rfl, by decide +kernel, rfl, by decide +kernel, by decide +kernel⟩
def b_Reading___init__ : DL.Env → O Fl := sSeq (sFldP 0 "Reading" "boxes" (fL (gLst (gNil))))
    (sSeq (sFldP 0 "Reading" "names" (fL (gLst (gNil))))
    (sSeq (sFldP 0 "Reading" "told" (fL (gLst (gNil))))
    (sSeq (sFldP 0 "Reading" "marks" (fDic0))
    (sFldP 0 "Reading" "many" (fDat (lD (gC (.int 1))))))))
def F_Reading___init__ : List S → O S := runF 0 b_Reading___init__
theorem ok_Reading___init__ {P : Program} {w : World} {K : PySem.W.Frag} {mg : Str → Option Value} {base : Heap} {ca : Str → Addr} {a : Addr} {fd : FuncData} (FU : Fun K "__init__" "Reading.__init__" st_Reading___init__ a fd)
  (CK_Reading : CT_Reading K mg ca) :
  FnOk P w K mg base (L2.CX P w) 1 a fd ["self"] (spF ⟨K, ca⟩ 1 [0] F_Reading___init__) :=
  fn_ok FU sc_Reading___init__ fun cdv A outer s H E hr => by
  have hp : PassesOwn (model P w) (cxOf (L2.CX P w) P w K mg base ["self"] "Reading.__init__" (defScope st_Reading___init__) a cdv A outer s H E).A (cxOf (L2.CX P w) P w K mg base ["self"] "Reading.__init__" (defScope st_Reading___init__) a cdv A outer s H E).env (cxOf (L2.CX P w) P w K mg base ["self"] "Reading.__init__" (defScope st_Reading___init__) a cdv A outer s H E).xe := passes_of (X := cxOf (L2.CX P w) P w K mg base ["self"] "Reading.__init__" (defScope st_Reading___init__) a cdv A outer s H E) rfl
  have tk : Takes (cxOf (L2.CX P w) P w K mg base ["self"] "Reading.__init__" (defScope st_Reading___init__) a cdv A outer s H E) (fun cls d _ H => E cls d H) := takes_of rfl rfl rfl rfl
  exact dss_cons (ds_fld (pv 0) CK_Reading.cls CK_Reading.n_boxes ((dl_lst (dpa_nil)).de))
    (dss_cons (ds_fld (pv 0) CK_Reading.cls CK_Reading.n_names ((dl_lst (dpa_nil)).de))
    (dss_cons (ds_fld (pv 0) CK_Reading.cls CK_Reading.n_told ((dl_lst (dpa_nil)).de))
    (dss_cons (ds_fld (pv 0) CK_Reading.cls CK_Reading.n_marks (de_dict0))
    (dss_one (ds_fld (pv 0) CK_Reading.cls CK_Reading.n_many (((dp_int).dd).de))))))
abbrev st_Reading_box_read : PySem.Stmt := inClass (topS 39) 1
theorem sc_Reading_box_read : FnScope ["self", "name", "low", "high", "first"] ["self", "name", "low", "high", "first"] (defScope st_Reading_box_read) := ⟨rfl, rfl, rfl, by decide +kernel, rfl, by decide +kernel, by decide +kernel⟩
def b_Reading_box_read : DL.Env → O Fl := sSeq (sIf (lT (gCmp D.ne (asU (gFld "Reading" "told" (gOwn 0))) (asL (gLst (gNil))))) (sRaise "NoPlace") (sNx))
    (sSeq (sIf (lT (gOr (gCmp D.lt (gVar 2) (gBin D.sub (gC (.int 0)) (gC (.int 99)))) (gOr (gCmp D.gt (gVar 3) (gC (.int 99))) (gOr (gNot (gTst (gChain D.le D.le (gVar 2) (gVar 4) (gVar 3)))) (gCmp D.gt (gBin D.sub (gVar 3) (gVar 2)) (gC (.int 19))))))) (sRaise "NoMeasure") (sNx))
    (sSeq (sFldP 0 "Reading" "many" (fDat (lD (gBin D.mul (asD (gFld "Reading" "many" (gOwn 0))) (gBin D.add (gBin D.sub (gVar 3) (gVar 2)) (gC (.int 1)))))))
    (sSeq (sIf (lT (gCmp D.gt (asU (gFld "Reading" "many" (gOwn 0))) (gC (.int 400)))) (sRaise "NoMeasure") (sNx))
    (sSeq (sIf (lT (gCmp D.isIn (gVar 1) (asU (gFld "Reading" "names" (gOwn 0))))) (sRaise "Twice") (sNx))
    (sSeq (sIf (lT (gCmp D.eq (gCall1 F_len (asU (gFld "Reading" "boxes" (gOwn 0)))) (gC (.int 4)))) (sRaise "Full") (sNx))
    (sSeq (sAppF 0 "Reading" "boxes" (gTup (gCons (gVar 1) (gCons (gVar 2) (gCons (gVar 3) (gCons (gVar 4) (gNil)))))))
    (sAppF 0 "Reading" "names" (gVar 1))))))))
def F_Reading_box_read : List S → O S := runF 0 b_Reading_box_read
theorem ok_Reading_box_read {P : Program} {w : World} {K : PySem.W.Frag} {mg : Str → Option Value} {base : Heap} {ca : Str → Addr} {a : Addr} {fd : FuncData} (FU : Fun K "box_read" "Reading.box_read" st_Reading_box_read a fd)
  (BI : BIT mg) (GL : GLT K mg) (CK_Reading : CT_Reading K mg ca) (XK_Full : ExcAt K mg ca "Full") (XK_NoMeasure : ExcAt K mg ca "NoMeasure") (XK_NoPlace : ExcAt K mg ca "NoPlace") (XK_Twice : ExcAt K mg ca "Twice") :
  FnOk P w K mg base (L2.CX P w) 1 a fd ["self", "name", "low", "high", "first"] (spF ⟨K, ca⟩ 5 [0] F_Reading_box_read) :=
  fn_ok FU sc_Reading_box_read fun cdv A outer s H E hr => by
  have hp : PassesOwn (model P w) (cxOf (L2.CX P w) P w K mg base ["self", "name", "low", "high", "first"] "Reading.box_read" (defScope st_Reading_box_read) a cdv A outer s H E).A (cxOf (L2.CX P w) P w K mg base ["self", "name", "low", "high", "first"] "Reading.box_read" (defScope st_Reading_box_read) a cdv A outer s H E).env (cxOf (L2.CX P w) P w K mg base ["self", "name", "low", "high", "first"] "Reading.box_read" (defScope st_Reading_box_read) a cdv A outer s H E).xe := passes_of (X := cxOf (L2.CX P w) P w K mg base ["self", "name", "low", "high", "first"] "Reading.box_read" (defScope st_Reading_box_read) a cdv A outer s H E) rfl
  have tk : Takes (cxOf (L2.CX P w) P w K mg base ["self", "name", "low", "high", "first"] "Reading.box_read" (defScope st_Reading_box_read) a cdv A outer s H E) (fun cls d _ H => E cls d H) := takes_of rfl rfl rfl rfl
  exact dss_cons (ds_if ((dpt_cmp (od_ne (by rfl) (u64 hr)) ((db_fld CK_Reading.cls CK_Reading.n_told (db_var (pv 0)) rfl).du) (((dl_lst (dpa_nil)).dp).du) (nomark _)).dt) (dss_one (ds_raise rfl tk PySem.F.excBase_ValueError XK_NoPlace.ex XK_NoPlace.mg XK_NoPlace.kp (raises_own XK_NoPlace.be XK_NoPlace.ty) rfl)) (dss_nil))
    (dss_cons (ds_if (((dpw_or (dpt_cmp od_lt ((dp_var (pv 2)).du) ((dp_bin od_sub (dp_int) (gp_int GL.FARTHEST (by rfl))).du) (nomark _)) (dpw_or (dpt_cmp od_gt ((dp_var (pv 3)).du) ((gp_int GL.FARTHEST (by rfl)).du) (nomark _)) (dpw_or (dpt_not (dpt_chain od_le od_le (dp_var (pv 2)) (dp_var (pv 4)) (dp_var (pv 3)))) (dpw_or1 (dpt_cmp od_gt ((dp_bin od_sub (dp_var (pv 3)) (dp_var (pv 2))).du) ((gp_int GL.WIDEST (by rfl)).du) (nomark _)))))).dpt).dt) (dss_one (ds_raise rfl tk PySem.F.excBase_ValueError XK_NoMeasure.ex XK_NoMeasure.mg XK_NoMeasure.kp (raises_own XK_NoMeasure.be XK_NoMeasure.ty) rfl)) (dss_nil))
    (dss_cons (ds_fld (pv 0) CK_Reading.cls CK_Reading.n_many (((dp_bin od_mul ((db_fld CK_Reading.cls CK_Reading.n_many (db_var (pv 0)) rfl).dp) (dp_bin (od_add (by rfl)) (dp_bin od_sub (dp_var (pv 3)) (dp_var (pv 2))) (dp_int))).dd).de))
    (dss_cons (ds_if ((dpt_cmp od_gt ((db_fld CK_Reading.cls CK_Reading.n_many (db_var (pv 0)) rfl).du) ((gp_int GL.MOST_VALUES (by rfl)).du) (nomark _)).dt) (dss_one (ds_raise rfl tk PySem.F.excBase_ValueError XK_NoMeasure.ex XK_NoMeasure.mg XK_NoMeasure.kp (raises_own XK_NoMeasure.be XK_NoMeasure.ty) rfl)) (dss_nil))
    (dss_cons (ds_if ((dpt_cmp (od_in (by rfl) (u65 hr)) ((dp_var (pv 1)).du) ((db_fld CK_Reading.cls CK_Reading.n_names (db_var (pv 0)) rfl).du) (by rfl)).dt) (dss_one (ds_raise rfl tk PySem.F.excBase_ValueError XK_Twice.ex XK_Twice.mg XK_Twice.kp (raises_own XK_Twice.be XK_Twice.ty) rfl)) (dss_nil))
    (dss_cons (ds_if ((dpt_cmp (od_eq (by rfl) (u64 hr)) ((dp_call1 (cd_len (by rfl)) (by rfl) BI.len (by decide +kernel) ((db_fld CK_Reading.cls CK_Reading.n_boxes (db_var (pv 0)) rfl).du)).du) ((gp_int GL.MOST_BOXES (by rfl)).du) (nomark _)).dt) (dss_one (ds_raise rfl tk PySem.F.excBase_ValueError XK_Full.ex XK_Full.mg XK_Full.kp (raises_own XK_Full.be XK_Full.ty) rfl)) (dss_nil))
    (dss_cons (ds_appF (pv 0) CK_Reading.cls CK_Reading.n_boxes (dp_tup (dpa_cons (dp_var (pv 1)) (dpa_cons (dp_var (pv 2)) (dpa_cons (dp_var (pv 3)) (dpa_cons (dp_var (pv 4)) (dpa_nil)))))))
    (dss_one (ds_appF (pv 0) CK_Reading.cls CK_Reading.n_names (dp_var (pv 1))))))))))
abbrev st_read : PySem.Stmt := topS 40
theorem sc_read : FnScope ["text", "rows", "reading", "row", "told"] ["text"] (defScope st_read) := ⟨rfl, rfl, rfl, by decide +kernel, rfl, by decide +kernel, by decide +kernel⟩
def b_read : DL.Env → O Fl := sSeq (sSet 1 (fDat (lD (asL (gSplit (gVar 0) (gC (.str "\n")))))))
    (sSeq (sIf (lT (gCmp D.gt (gCall1 F_len (gVar 1)) (gC (.int 60)))) (sRaise "TooLong") (sNx))
    (sSeq (sSet 2 (fMake "Reading" F_Reading___init__ gNil))
    (sSeq (sForE (fWalk (lD (gVar 1))) (hName 3) [3] (sSeq (sSet 4 (fDat (fFrz (fCall [] F_row_told (xP (gCons (gVar 3) (gNil)))))))
    (sIf (lT (gCmp D.eq (asU (gIx (gOwn 4) (gC (.int 0)))) (gC (.str "box")))) (sDrop (fMeth 2 "Reading" "box_read" [0] F_Reading_box_read (xP (gCons (asD (gIx (gOwn 4) (gC (.int 1)))) (gCons (asD (gIx (gOwn 4) (gC (.int 2)))) (gCons (asD (gIx (gOwn 4) (gC (.int 3)))) (gCons (asD (gIx (gOwn 4) (gC (.int 4)))) (gNil)))))))) (sNo))))
    (sSeq (sIf (lT (gCmp D.eq (asU (gFld "Reading" "boxes" (gOwn 2))) (asL (gLst (gNil))))) (sRaise "NoBox") (sNx))
    (sRet (fDat (fTup (fCons (fMvF 2 "Reading" "boxes") (fCons (lD (asL (gComp (fun ρ => ((gFld "Reading" "told" (gOwn 2)) ρ).bind S.walk) (([("told", 4)] : List (Str × Nat)).map (·.2)) (hName 4) (fun _ => some true) (gNo)))) (fNil))))))))))
def F_read : List S → O S := runF 4 b_read
theorem ok_read {P : Program} {w : World} {K : PySem.W.Frag} {mg : Str → Option Value} {base : Heap} {ca : Str → Addr} {a : Addr} {fd : FuncData} (FU : Fun K "read" "read" st_read a fd)
  (BI : BIT mg) (GL : GLT K mg) (CK_Reading : CT_Reading K mg ca) (XK_NoBox : ExcAt K mg ca "NoBox") (XK_TooLong : ExcAt K mg ca "TooLong") {a_Reading___init__ : Addr} {fd_Reading___init__ : FuncData} (G_Reading___init__ : MethOk P w K mg base ⟨K, ca⟩ 1 (ca "Reading") "__init__" "Reading.__init__" st_Reading___init__ ["self"] [0] F_Reading___init__ a_Reading___init__ fd_Reading___init__) {a_Reading_box_read : Addr} {fd_Reading_box_read : FuncData} (G_Reading_box_read : MethOk P w K mg base ⟨K, ca⟩ 1 (ca "Reading") "box_read" "Reading.box_read" st_Reading_box_read ["self", "name", "low", "high", "first"] [0] F_Reading_box_read a_Reading_box_read fd_Reading_box_read) {a_row_told : Addr} {fd_row_told : FuncData} (G_row_told : DefOk P w K mg base ⟨K, ca⟩ 3 "row_told" "row_told" st_row_told ["row"] [] F_row_told a_row_told fd_row_told) :
  FnOk P w K mg base (L2.CX P w) 4 a fd ["text"] (spF ⟨K, ca⟩ 1 [] F_read) :=
  fn_ok FU sc_read fun cdv A outer s H E hr => by
  have hp : PassesOwn (model P w) (cxOf (L2.CX P w) P w K mg base ["text", "rows", "reading", "row", "told"] "read" (defScope st_read) a cdv A outer s H E).A (cxOf (L2.CX P w) P w K mg base ["text", "rows", "reading", "row", "told"] "read" (defScope st_read) a cdv A outer s H E).env (cxOf (L2.CX P w) P w K mg base ["text", "rows", "reading", "row", "told"] "read" (defScope st_read) a cdv A outer s H E).xe := passes_of (X := cxOf (L2.CX P w) P w K mg base ["text", "rows", "reading", "row", "told"] "read" (defScope st_read) a cdv A outer s H E) rfl
  have tk : Takes (cxOf (L2.CX P w) P w K mg base ["text", "rows", "reading", "row", "told"] "read" (defScope st_read) a cdv A outer s H E) (fun cls d _ H => E cls d H) := takes_of rfl rfl rfl rfl
  exact dss_cons (ds_set sc_read.nd rfl (by first | exact Or.inl rfl | exact Or.inr rfl) (by decide) ((((dl_split (dp_var (pv 0)) (dp_str)).dp).dd).de))
    (dss_cons (ds_if ((dpt_cmp od_gt ((dp_call1 (cd_len (by rfl)) (by rfl) BI.len (by decide +kernel) ((dp_var (pv 1)).du)).du) ((gp_int GL.MOST_ROWS (by rfl)).du) (nomark _)).dt) (dss_one (ds_raise rfl tk PySem.F.excBase_ValueError XK_TooLong.ex XK_TooLong.mg XK_TooLong.kp (raises_own XK_TooLong.be XK_TooLong.ty) rfl)) (dss_nil))
    (dss_cons (ds_set sc_read.nd rfl (by first | exact Or.inl rfl | exact Or.inr rfl) (by decide) (de_make0 (CK_Reading.mk_ G_Reading___init__.me) G_Reading___init__.ok (hr.mono (by decide)) (by rfl) CK_Reading.mg G_Reading___init__.bi rfl))
    (dss_cons (ds_forE (cl := [3]) hp rfl (die_seq (by rfl) ((dp_var (pv 1)).dd)) (dg_name (pg_name sc_read.nd rfl (by first | exact Or.inl rfl | exact Or.inr rfl))) (by decide) (dss_cons (ds_set sc_read.nd rfl (by first | exact Or.inl rfl | exact Or.inr rfl) (by decide) (((de_call G_row_told.ok tk (hr.mono (by decide)) (by rfl) G_row_told.loc.mg G_row_told.loc.fn.kp G_row_told.loc.bi ((dpa_cons (dp_var (pv 3)) (dpa_nil)).dx) (xl_p (gl_cons (gl_nil)))).dd).de))
    (dss_one (ds_if ((dpt_cmp (od_eq (by rfl) (u64 hr)) ((db_ix (by rfl) (db_var (pv 4)) (dp_int) (fun _ _ => rfl)).du) ((dp_str).du) (nomark _)).dt) (dss_one (ds_expr (de_meth (pv 2) CK_Reading.cls G_Reading_box_read.me G_Reading_box_read.ok tk (hr.mono (by decide)) G_Reading_box_read.bi ((dpa_cons ((db_ix (by rfl) (db_var (pv 4)) (dp_int) (fun _ _ => rfl)).dp) (dpa_cons ((db_ix (by rfl) (db_var (pv 4)) (dp_int) (fun _ _ => rfl)).dp) (dpa_cons ((db_ix (by rfl) (db_var (pv 4)) (dp_int) (fun _ _ => rfl)).dp) (dpa_cons ((db_ix (by rfl) (db_var (pv 4)) (dp_int) (fun _ _ => rfl)).dp) (dpa_nil))))).dx) (xl_s (xl_p (gl_cons (gl_cons (gl_cons (gl_cons (gl_nil)))))))))) (dss_one (ds_never))))))
    (dss_cons (ds_if ((dpt_cmp (od_eq (by rfl) (u64 hr)) ((db_fld CK_Reading.cls CK_Reading.n_boxes (db_var (pv 2)) rfl).du) (((dl_lst (dpa_nil)).dp).du) (nomark _)).dt) (dss_one (ds_raise rfl tk PySem.F.excBase_ValueError XK_NoBox.ex XK_NoBox.mg XK_NoBox.kp (raises_own XK_NoBox.be XK_NoBox.ty) rfl)) (dss_nil))
    (dss_one (ds_ret ((dd_tup (da_cons (dd_mvF (pv 2) CK_Reading.cls CK_Reading.n_boxes) (da_cons (((dl_comp (own := [("told", 4)]) rfl sc_read.nd (dip_seq (by rfl) (db_fld CK_Reading.cls CK_Reading.n_told (db_var (pv 2)) rfl)) (blkOk_by (by first | decide +kernel | rfl)) (by decide) (fun _ _ _ _ _ => dg_name (pg_name sc_read.nd rfl (by first | exact Or.inl rfl | exact Or.inr rfl))) (fun _ _ _ _ _ => dpts_nil) (fun _ _ _ _ _ => dp_never)).dp).dd) (da_nil)))).de)))))))
abbrev st_l_law_stir : PySem.Stmt := topS 42
theorem sc_l_law_stir : FnScope ["cell", "k", "number"] ["cell", "k"] (defScope st_l_law_stir) := ⟨rfl, rfl, rfl, by decide +kernel, rfl, by decide +kernel, by decide +kernel⟩
def b_l_law_stir : DL.Env → O Fl := sSeq (sIf (lT (gCmp D.ge (gVar 0) (gBin D.pow (gC (.int 10)) (gC (.int 18))))) (sRet (fDat (lD (gBin D.mod (gBin D.shr (gBin D.sub (gVar 0) (gBin D.pow (gC (.int 10)) (gC (.int 18)))) (gBin D.mul (gC (.int 28)) (gVar 1))) (gBin D.pow (gC (.int 2)) (gC (.int 28))))))) (sNx))
    (sSeq (sSet 2 (fDat (lD (gBin D.mod (gBin D.mul (gBin D.add (gBin D.add (gVar 0) (gBin D.mul (gC (.int 1013)) (gVar 1))) (gC (.int 1))) (gC (.int 16807))) (gC (.int 2147483647))))))
    (sSeq (sSet 2 (fDat (lD (gBin D.mod (gBin D.mul (gVar 2) (gVar 2)) (gC (.int 2147483629))))))
    (sRet (fDat (lD (gBin D.fdiv (gBin D.mod (gBin D.mul (gVar 2) (gC (.int 39373))) (gC (.int 2147483587))) (gC (.int 8))))))))
def F_l_law_stir : List S → O S := runF 1 b_l_law_stir
theorem ok_l_law_stir {P : Program} {w : World} {K : PySem.W.Frag} {mg : Str → Option Value} {base : Heap} {ca : Str → Addr} {a : Addr} {fd : FuncData} (FU : Fun K "_law_stir" "_law_stir" st_l_law_stir a fd)
   :
  FnOk P w K mg base (L2.CX P w) 1 a fd ["cell", "k"] (spF ⟨K, ca⟩ 2 [] F_l_law_stir) :=
  fn_ok FU sc_l_law_stir fun cdv A outer s H E hr => by
  have hp : PassesOwn (model P w) (cxOf (L2.CX P w) P w K mg base ["cell", "k", "number"] "_law_stir" (defScope st_l_law_stir) a cdv A outer s H E).A (cxOf (L2.CX P w) P w K mg base ["cell", "k", "number"] "_law_stir" (defScope st_l_law_stir) a cdv A outer s H E).env (cxOf (L2.CX P w) P w K mg base ["cell", "k", "number"] "_law_stir" (defScope st_l_law_stir) a cdv A outer s H E).xe := passes_of (X := cxOf (L2.CX P w) P w K mg base ["cell", "k", "number"] "_law_stir" (defScope st_l_law_stir) a cdv A outer s H E) rfl
  have tk : Takes (cxOf (L2.CX P w) P w K mg base ["cell", "k", "number"] "_law_stir" (defScope st_l_law_stir) a cdv A outer s H E) (fun cls d _ H => E cls d H) := takes_of rfl rfl rfl rfl
  exact dss_cons (ds_if ((dpt_cmp od_ge ((dp_var (pv 0)).du) ((dp_bin od_pow (dp_int) (dp_int)).du) (nomark _)).dt) (dss_one (ds_ret (((dp_bin od_mod (dp_bin od_shr (dp_bin od_sub (dp_var (pv 0)) (dp_bin od_pow (dp_int) (dp_int))) (dp_bin od_mul (dp_int) (dp_var (pv 1)))) (dp_bin od_pow (dp_int) (dp_int))).dd).de))) (dss_nil))
    (dss_cons (ds_set sc_l_law_stir.nd rfl (by first | exact Or.inl rfl | exact Or.inr rfl) (by decide) (((dp_bin od_mod (dp_bin od_mul (dp_bin (od_add (by rfl)) (dp_bin (od_add (by rfl)) (dp_var (pv 0)) (dp_bin od_mul (dp_int) (dp_var (pv 1)))) (dp_int)) (dp_int)) (dp_int)).dd).de))
    (dss_cons (ds_set sc_l_law_stir.nd rfl (by first | exact Or.inl rfl | exact Or.inr rfl) (by decide) (((dp_bin od_mod (dp_bin od_mul (dp_var (pv 2)) (dp_var (pv 2))) (dp_int)).dd).de))
    (dss_one (ds_ret (((dp_bin od_fdiv (dp_bin od_mod (dp_bin od_mul (dp_var (pv 2)) (dp_int)) (dp_int)) (dp_int)).dd).de)))))
abbrev st_l_law_box : PySem.Stmt := topS 43
theorem sc_l_law_box : FnScope ["cell", "k", "sizes", "number", "far", "size", "low", "high", "first"] ["cell", "k", "sizes"] (defScope st_l_law_box) := ⟨rfl, rfl, rfl, by decide +kernel, rfl, by decide +kernel, by decide +kernel⟩
def b_l_law_box : DL.Env → O Fl := sSeq (sSet 3 (fDat (lD (gCallF F_l_law_stir (gCons (gVar 0) (gCons (gBin D.add (gC (.int 10)) (gVar 1)) (gNil)))))))
    (sSeq (sSet 4 (fDat (lD (gCallF F_l_law_stir (gCons (gVar 0) (gCons (gBin D.add (gC (.int 20)) (gVar 1)) (gNil)))))))
    (sSeq (sSet 5 (fDat (lD (asD (gIx (gOwn 2) (gBin D.mod (gVar 1) (gCall1 F_len (gVar 2))))))))
    (sSeq (sIf (lT (gCmp D.eq (gBin D.mod (gVar 3) (gC (.int 8))) (gC (.int 0)))) (sSet 5 (fDat (lD (asD (gIx (asB (asL (gLst (gCons (gC (.int 0)) (gCons (gC (.int 1)) (gCons (gC (.int 20)) (gCons (gC (.int 21)) (gCons (gC (.int 22)) (gCons (gC (.int 500)) (gNil)))))))))) (gBin D.mod (gVar 4) (gC (.int 6)))))))) (sNx))
    (sSeq (sSet 6 (fDat (lD (asD (gIx (asB (asL (gLst (gCons (gNeg (gC (.int 99))) (gCons (gBin D.sub (gC (.int 100)) (gVar 5)) (gCons (gNeg (gC (.int 100))) (gCons (gC (.int 0)) (gCons (gNeg (gC (.int 5))) (gCons (gBin D.sub (gBin D.mod (gBin D.fdiv (gVar 4) (gC (.int 8))) (gBin D.sub (gC (.int 200)) (gBin D.mod (gVar 5) (gC (.int 100))))) (gC (.int 99))) (gCons (gC (.int 99)) (gCons (gNeg (gC (.int 999))) (gNil)))))))))))) (gBin D.mod (gBin D.mod (gBin D.fdiv (gVar 3) (gC (.int 8))) (gC (.int 16))) (gC (.int 8))))))))
    (sSeq (sIf (lT (gCmp D.gt (gBin D.mod (gBin D.fdiv (gVar 3) (gC (.int 8))) (gC (.int 16))) (gC (.int 7)))) (sSet 6 (fDat (lD (asD (gIx (asB (asL (gLst (gCons (gNeg (gC (.int 99))) (gCons (gBin D.sub (gC (.int 100)) (gCall F_min2 (gCons (gVar 5) (gCons (gC (.int 199)) (gNil))))) (gCons (gC (.int 0)) (gCons (gBin D.sub (gBin D.mod (gBin D.fdiv (gVar 4) (gC (.int 8))) (gC (.int 180))) (gC (.int 99))) (gNil)))))))) (gBin D.mod (gBin D.fdiv (gVar 3) (gC (.int 8))) (gC (.int 4)))))))) (sNx))
    (sSeq (sSet 7 (fDat (lD (gBin D.sub (gBin D.add (gVar 6) (gVar 5)) (gC (.int 1))))))
    (sSeq (sSet 8 (fDat (lD (asD (gIx (asB (asL (gLst (gCons (gVar 6) (gCons (gVar 7) (gCons (gBin D.add (gVar 6) (gBin D.mod (gBin D.fdiv (gVar 4) (gC (.int 2000))) (gCall F_max2 (gCons (gC (.int 1)) (gCons (gVar 5) (gNil)))))) (gCons (gVar 6) (gCons (gVar 7) (gCons (gVar 6) (gNil)))))))))) (gBin D.mod (gBin D.fdiv (gVar 3) (gC (.int 128))) (gC (.int 6))))))))
    (sSeq (sIf (lT (gCmp D.eq (gBin D.mod (gBin D.fdiv (gVar 3) (gC (.int 768))) (gC (.int 16))) (gC (.int 3)))) (sSet 8 (fDat (lD (asD (gIx (asB (asL (gLst (gCons (gBin D.sub (gVar 6) (gC (.int 1))) (gCons (gBin D.add (gVar 7) (gC (.int 1))) (gNil)))))) (gBin D.mod (gBin D.fdiv (gVar 3) (gC (.int 12288))) (gC (.int 2)))))))) (sNx))
    (sRet (fDat (lD (gTup (gCons (gVar 6) (gCons (gCall F_max2 (gCons (gNeg (gC (.int 999))) (gCons (gCall F_min2 (gCons (gVar 7) (gCons (gC (.int 999)) (gNil)))) (gNil)))) (gCons (gCall F_max2 (gCons (gNeg (gC (.int 999))) (gCons (gCall F_min2 (gCons (gVar 8) (gCons (gC (.int 999)) (gNil)))) (gNil)))) (gNil))))))))))))))))
def F_l_law_box : List S → O S := runF 6 b_l_law_box
theorem ok_l_law_box {P : Program} {w : World} {K : PySem.W.Frag} {mg : Str → Option Value} {base : Heap} {ca : Str → Addr} {a : Addr} {fd : FuncData} (FU : Fun K "_law_box" "_law_box" st_l_law_box a fd)
  (BI : BIT mg) {a_l_law_stir : Addr} {fd_l_law_stir : FuncData} (G_l_law_stir : DefOk P w K mg base ⟨K, ca⟩ 1 "_law_stir" "_law_stir" st_l_law_stir ["cell", "k"] [] F_l_law_stir a_l_law_stir fd_l_law_stir) :
  FnOk P w K mg base (L2.CX P w) 2 a fd ["cell", "k", "sizes"] (spF ⟨K, ca⟩ 3 [] F_l_law_box) :=
  fn_ok FU sc_l_law_box fun cdv A outer s H E hr => by
  have hp : PassesOwn (model P w) (cxOf (L2.CX P w) P w K mg base ["cell", "k", "sizes", "number", "far", "size", "low", "high", "first"] "_law_box" (defScope st_l_law_box) a cdv A outer s H E).A (cxOf (L2.CX P w) P w K mg base ["cell", "k", "sizes", "number", "far", "size", "low", "high", "first"] "_law_box" (defScope st_l_law_box) a cdv A outer s H E).env (cxOf (L2.CX P w) P w K mg base ["cell", "k", "sizes", "number", "far", "size", "low", "high", "first"] "_law_box" (defScope st_l_law_box) a cdv A outer s H E).xe := passes_of (X := cxOf (L2.CX P w) P w K mg base ["cell", "k", "sizes", "number", "far", "size", "low", "high", "first"] "_law_box" (defScope st_l_law_box) a cdv A outer s H E) rfl
  have tk : Takes (cxOf (L2.CX P w) P w K mg base ["cell", "k", "sizes", "number", "far", "size", "low", "high", "first"] "_law_box" (defScope st_l_law_box) a cdv A outer s H E) (fun cls d _ H => E cls d H) := takes_of rfl rfl rfl rfl
  exact dss_cons (ds_set sc_l_law_box.nd rfl (by first | exact Or.inl rfl | exact Or.inr rfl) (by decide) (((dp_callF G_l_law_stir.ok (hr.mono (by decide)) (by rfl) G_l_law_stir.loc.mg G_l_law_stir.loc.fn.kp G_l_law_stir.loc.bi (dpa_cons (dp_var (pv 0)) (dpa_cons (dp_bin (od_add (by rfl)) (dp_int) (dp_var (pv 1))) (dpa_nil))) (gl_cons (gl_cons (gl_nil)))).dd).de))
    (dss_cons (ds_set sc_l_law_box.nd rfl (by first | exact Or.inl rfl | exact Or.inr rfl) (by decide) (((dp_callF G_l_law_stir.ok (hr.mono (by decide)) (by rfl) G_l_law_stir.loc.mg G_l_law_stir.loc.fn.kp G_l_law_stir.loc.bi (dpa_cons (dp_var (pv 0)) (dpa_cons (dp_bin (od_add (by rfl)) (dp_int) (dp_var (pv 1))) (dpa_nil))) (gl_cons (gl_cons (gl_nil)))).dd).de))
    (dss_cons (ds_set sc_l_law_box.nd rfl (by first | exact Or.inl rfl | exact Or.inr rfl) (by decide) ((((db_ix (by rfl) (db_var (pv 2)) (dp_bin od_mod (dp_var (pv 1)) (dp_call1 (cd_len (by rfl)) (by rfl) BI.len (by decide +kernel) ((dp_var (pv 2)).du))) (fun _ _ => rfl)).dp).dd).de))
    (dss_cons (ds_if ((dpt_cmp (od_eq (by rfl) (u64 hr)) ((dp_bin od_mod (dp_var (pv 3)) (dp_int)).du) ((dp_int).du) (nomark _)).dt) (dss_one (ds_set sc_l_law_box.nd rfl (by first | exact Or.inl rfl | exact Or.inr rfl) (by decide) ((((db_ix (by rfl) (((dl_lst (dpa_cons (dp_int) (dpa_cons (dp_int) (dpa_cons (dp_int) (dpa_cons (dp_int) (dpa_cons (dp_int) (dpa_cons (dp_int) (dpa_nil)))))))).dp).db) (dp_bin od_mod (dp_var (pv 4)) (dp_int)) (fun _ _ => rfl)).dp).dd).de))) (dss_nil))
    (dss_cons (ds_set sc_l_law_box.nd rfl (by first | exact Or.inl rfl | exact Or.inr rfl) (by decide) ((((db_ix (by rfl) (((dl_lst (dpa_cons (dp_neg (dp_int)) (dpa_cons (dp_bin od_sub (dp_int) (dp_var (pv 5))) (dpa_cons (dp_neg (dp_int)) (dpa_cons (dp_int) (dpa_cons (dp_neg (dp_int)) (dpa_cons (dp_bin od_sub (dp_bin od_mod (dp_bin od_fdiv (dp_var (pv 4)) (dp_int)) (dp_bin od_sub (dp_int) (dp_bin od_mod (dp_var (pv 5)) (dp_int)))) (dp_int)) (dpa_cons (dp_int) (dpa_cons (dp_neg (dp_int)) (dpa_nil)))))))))).dp).db) (dp_bin od_mod (dp_bin od_mod (dp_bin od_fdiv (dp_var (pv 3)) (dp_int)) (dp_int)) (dp_int)) (fun _ _ => rfl)).dp).dd).de))
    (dss_cons (ds_if ((dpt_cmp od_gt ((dp_bin od_mod (dp_bin od_fdiv (dp_var (pv 3)) (dp_int)) (dp_int)).du) ((dp_int).du) (nomark _)).dt) (dss_one (ds_set sc_l_law_box.nd rfl (by first | exact Or.inl rfl | exact Or.inr rfl) (by decide) ((((db_ix (by rfl) (((dl_lst (dpa_cons (dp_neg (dp_int)) (dpa_cons (dp_bin od_sub (dp_int) (dp_callB (cd_min2 (by rfl)) (by rfl) BI.min (by decide +kernel) (dpa_cons (dp_var (pv 5)) (dpa_cons (dp_int) (dpa_nil))))) (dpa_cons (dp_int) (dpa_cons (dp_bin od_sub (dp_bin od_mod (dp_bin od_fdiv (dp_var (pv 4)) (dp_int)) (dp_int)) (dp_int)) (dpa_nil)))))).dp).db) (dp_bin od_mod (dp_bin od_fdiv (dp_var (pv 3)) (dp_int)) (dp_int)) (fun _ _ => rfl)).dp).dd).de))) (dss_nil))
    (dss_cons (ds_set sc_l_law_box.nd rfl (by first | exact Or.inl rfl | exact Or.inr rfl) (by decide) (((dp_bin od_sub (dp_bin (od_add (by rfl)) (dp_var (pv 6)) (dp_var (pv 5))) (dp_int)).dd).de))
    (dss_cons (ds_set sc_l_law_box.nd rfl (by first | exact Or.inl rfl | exact Or.inr rfl) (by decide) ((((db_ix (by rfl) (((dl_lst (dpa_cons (dp_var (pv 6)) (dpa_cons (dp_var (pv 7)) (dpa_cons (dp_bin (od_add (by rfl)) (dp_var (pv 6)) (dp_bin od_mod (dp_bin od_fdiv (dp_var (pv 4)) (dp_int)) (dp_callB (cd_max2 (by rfl)) (by rfl) BI.max (by decide +kernel) (dpa_cons (dp_int) (dpa_cons (dp_var (pv 5)) (dpa_nil)))))) (dpa_cons (dp_var (pv 6)) (dpa_cons (dp_var (pv 7)) (dpa_cons (dp_var (pv 6)) (dpa_nil)))))))).dp).db) (dp_bin od_mod (dp_bin od_fdiv (dp_var (pv 3)) (dp_int)) (dp_int)) (fun _ _ => rfl)).dp).dd).de))
    (dss_cons (ds_if ((dpt_cmp (od_eq (by rfl) (u64 hr)) ((dp_bin od_mod (dp_bin od_fdiv (dp_var (pv 3)) (dp_int)) (dp_int)).du) ((dp_int).du) (nomark _)).dt) (dss_one (ds_set sc_l_law_box.nd rfl (by first | exact Or.inl rfl | exact Or.inr rfl) (by decide) ((((db_ix (by rfl) (((dl_lst (dpa_cons (dp_bin od_sub (dp_var (pv 6)) (dp_int)) (dpa_cons (dp_bin (od_add (by rfl)) (dp_var (pv 7)) (dp_int)) (dpa_nil)))).dp).db) (dp_bin od_mod (dp_bin od_fdiv (dp_var (pv 3)) (dp_int)) (dp_int)) (fun _ _ => rfl)).dp).dd).de))) (dss_nil))
    (dss_one (ds_ret (((dp_tup (dpa_cons (dp_var (pv 6)) (dpa_cons (dp_callB (cd_max2 (by rfl)) (by rfl) BI.max (by decide +kernel) (dpa_cons (dp_neg (dp_int)) (dpa_cons (dp_callB (cd_min2 (by rfl)) (by rfl) BI.min (by decide +kernel) (dpa_cons (dp_var (pv 7)) (dpa_cons (dp_int) (dpa_nil)))) (dpa_nil)))) (dpa_cons (dp_callB (cd_max2 (by rfl)) (by rfl) BI.max (by decide +kernel) (dpa_cons (dp_neg (dp_int)) (dpa_cons (dp_callB (cd_min2 (by rfl)) (by rfl) BI.min (by decide +kernel) (dpa_cons (dp_var (pv 8)) (dpa_cons (dp_int) (dpa_nil)))) (dpa_nil)))) (dpa_nil))))).dd).de)))))))))))
abbrev st_l_law_boxes : PySem.Stmt := topS 44
theorem sc_l_law_boxes : FnScope ["cell", "number", "some", "sizes", "names", "found", "k"] ["cell"] (defScope st_l_law_boxes) := ⟨rfl, rfl, rfl, by decide +kernel, rfl, by decide +kernel, by decide +kernel⟩
def b_l_law_boxes : DL.Env → O Fl := sSeq (sSet 1 (fDat (lD (gCallF F_l_law_stir (gCons (gVar 0) (gCons (gC (.int 0)) (gNil)))))))
    (sSeq (sSet 2 (fDat (lD (asL (gLst (gCons (asL (gLst (gCons (gC (.int 20)) (gCons (gC (.int 20)) (gCons (gC (.int 1)) (gCons (gC (.int 1)) (gNil))))))) (gCons (asL (gLst (gCons (gC (.int 20)) (gCons (gC (.int 10)) (gCons (gC (.int 2)) (gCons (gC (.int 1)) (gNil))))))) (gCons (asL (gLst (gCons (gC (.int 5)) (gCons (gC (.int 4)) (gCons (gC (.int 5)) (gCons (gC (.int 4)) (gNil))))))) (gCons (asL (gLst (gCons (gC (.int 4)) (gCons (gC (.int 10)) (gCons (gC (.int 10)) (gCons (gC (.int 1)) (gNil))))))) (gCons (asL (gLst (gCons (gC (.int 20)) (gCons (gC (.int 20)) (gCons (gC (.int 2)) (gNil)))))) (gCons (asL (gLst (gCons (gC (.int 17)) (gCons (gC (.int 12)) (gCons (gC (.int 2)) (gNil)))))) (gCons (asL (gLst (gCons (gC (.int 7)) (gCons (gC (.int 19)) (gCons (gC (.int 3)) (gNil)))))) (gNil)))))))))))))
    (sSeq (sSet 2 (fDat (lD (asL (gL2 (fun ρ => ((gOwn 2) ρ).bind S.itemsL) (gLst (gCons (asL (gLst (gCons (gC (.int 20)) (gCons (gC (.int 5)) (gCons (gC (.int 4)) (gNil)))))) (gCons (asL (gLst (gCons (gC (.int 2)) (gCons (gC (.int 10)) (gCons (gC (.int 20)) (gCons (gC (.int 1)) (gNil))))))) (gCons (asL (gLst (gCons (gC (.int 1)) (gCons (gC (.int 1)) (gCons (gC (.int 1)) (gCons (gC (.int 1)) (gCons (gC (.int 1)) (gNil)))))))) (gCons (asL (gLst (gCons (gC (.int 3)) (gCons (gC (.int 3)) (gCons (gC (.int 3)) (gCons (gC (.int 3)) (gNil))))))) (gCons (asL (gLst (gCons (gC (.int 4)) (gCons (gC (.int 5)) (gCons (gC (.int 4)) (gCons (gC (.int 6)) (gNil))))))) (gCons (asL (gLst (gCons (gC (.int 2)) (gNil)))) (gCons (asL (gLst (gCons (gC (.int 13)) (gCons (gC (.int 15)) (gCons (gC (.int 2)) (gNil)))))) (gNil))))))))))))))
    (sSeq (sSet 2 (fDat (lD (asL (gL2 (fun ρ => ((gOwn 2) ρ).bind S.itemsL) (gLst (gCons (asL (gLst (gCons (gC (.int 20)) (gCons (gC (.int 4)) (gCons (gC (.int 5)) (gCons (gC (.int 2)) (gNil))))))) (gCons (asL (gLst (gCons (gC (.int 9)) (gCons (gC (.int 9)) (gCons (gC (.int 5)) (gNil)))))) (gNil)))))))))
    (sSeq (sSet 3 (fDat (lD (asD (gIx (gOwn 2) (gBin D.mod (gVar 1) (gC (.int 16))))))))
    (sSeq (sSet 4 (fL (gLst (gCons (gC (.str "a")) (gCons (gC (.str "ab")) (gCons (gC (.str "b")) (gCons (gC (.str "abc")) (gCons (gC (.str "bb")) (gNil)))))))))
    (sSeq (sIf (lT (gCmp D.eq (gBin D.mod (gBin D.fdiv (gVar 1) (gC (.int 16))) (gC (.int 4))) (gC (.int 1)))) (sIxP 4 (gBin D.mod (gBin D.fdiv (gVar 1) (gC (.int 64))) (gC (.int 5))) (fDat (lD (asD (gIx (gOwn 4) (gBin D.mod (gBin D.fdiv (gVar 1) (gC (.int 320))) (gC (.int 5)))))))) (sNx))
    (sSeq (sSet 5 (fL (gLst (gNil))))
    (sSeq (sForE (lI (gRange1 (gBin D.add (gC (.int 1)) (gBin D.mod (gBin D.fdiv (gVar 1) (gC (.int 1600))) (gC (.int 5)))))) (hName 6) [6] (sApp 5 (fDat (lD (gBin D.add (gTup (gCons (asD (gIx (gOwn 4) (gVar 6))) (gNil))) (gCallF F_l_law_box (gCons (gVar 0) (gCons (gVar 6) (gCons (gVar 3) (gNil))))))))))
    (sRet (fTake 5))))))))))
def F_l_law_boxes : List S → O S := runF 6 b_l_law_boxes
theorem ok_l_law_boxes {P : Program} {w : World} {K : PySem.W.Frag} {mg : Str → Option Value} {base : Heap} {ca : Str → Addr} {a : Addr} {fd : FuncData} (FU : Fun K "_law_boxes" "_law_boxes" st_l_law_boxes a fd)
  (BI : BIT mg) {a_l_law_box : Addr} {fd_l_law_box : FuncData} (G_l_law_box : DefOk P w K mg base ⟨K, ca⟩ 2 "_law_box" "_law_box" st_l_law_box ["cell", "k", "sizes"] [] F_l_law_box a_l_law_box fd_l_law_box) {a_l_law_stir : Addr} {fd_l_law_stir : FuncData} (G_l_law_stir : DefOk P w K mg base ⟨K, ca⟩ 1 "_law_stir" "_law_stir" st_l_law_stir ["cell", "k"] [] F_l_law_stir a_l_law_stir fd_l_law_stir) :
  FnOk P w K mg base (L2.CX P w) 3 a fd ["cell"] (spF ⟨K, ca⟩ 1 [] F_l_law_boxes) :=
  fn_ok FU sc_l_law_boxes fun cdv A outer s H E hr => by
  have hp : PassesOwn (model P w) (cxOf (L2.CX P w) P w K mg base ["cell", "number", "some", "sizes", "names", "found", "k"] "_law_boxes" (defScope st_l_law_boxes) a cdv A outer s H E).A (cxOf (L2.CX P w) P w K mg base ["cell", "number", "some", "sizes", "names", "found", "k"] "_law_boxes" (defScope st_l_law_boxes) a cdv A outer s H E).env (cxOf (L2.CX P w) P w K mg base ["cell", "number", "some", "sizes", "names", "found", "k"] "_law_boxes" (defScope st_l_law_boxes) a cdv A outer s H E).xe := passes_of (X := cxOf (L2.CX P w) P w K mg base ["cell", "number", "some", "sizes", "names", "found", "k"] "_law_boxes" (defScope st_l_law_boxes) a cdv A outer s H E) rfl
  have tk : Takes (cxOf (L2.CX P w) P w K mg base ["cell", "number", "some", "sizes", "names", "found", "k"] "_law_boxes" (defScope st_l_law_boxes) a cdv A outer s H E) (fun cls d _ H => E cls d H) := takes_of rfl rfl rfl rfl
  exact dss_cons (ds_set sc_l_law_boxes.nd rfl (by first | exact Or.inl rfl | exact Or.inr rfl) (by decide) (((dp_callF G_l_law_stir.ok (hr.mono (by decide)) (by rfl) G_l_law_stir.loc.mg G_l_law_stir.loc.fn.kp G_l_law_stir.loc.bi (dpa_cons (dp_var (pv 0)) (dpa_cons (dp_int) (dpa_nil))) (gl_cons (gl_cons (gl_nil)))).dd).de))
    (dss_cons (ds_set sc_l_law_boxes.nd rfl (by first | exact Or.inl rfl | exact Or.inr rfl) (by decide) ((((dl_lst (dpa_cons ((dl_lst (dpa_cons (dp_int) (dpa_cons (dp_int) (dpa_cons (dp_int) (dpa_cons (dp_int) (dpa_nil)))))).dp) (dpa_cons ((dl_lst (dpa_cons (dp_int) (dpa_cons (dp_int) (dpa_cons (dp_int) (dpa_cons (dp_int) (dpa_nil)))))).dp) (dpa_cons ((dl_lst (dpa_cons (dp_int) (dpa_cons (dp_int) (dpa_cons (dp_int) (dpa_cons (dp_int) (dpa_nil)))))).dp) (dpa_cons ((dl_lst (dpa_cons (dp_int) (dpa_cons (dp_int) (dpa_cons (dp_int) (dpa_cons (dp_int) (dpa_nil)))))).dp) (dpa_cons ((dl_lst (dpa_cons (dp_int) (dpa_cons (dp_int) (dpa_cons (dp_int) (dpa_nil))))).dp) (dpa_cons ((dl_lst (dpa_cons (dp_int) (dpa_cons (dp_int) (dpa_cons (dp_int) (dpa_nil))))).dp) (dpa_cons ((dl_lst (dpa_cons (dp_int) (dpa_cons (dp_int) (dpa_cons (dp_int) (dpa_nil))))).dp) (dpa_nil))))))))).dp).dd).de))
    (dss_cons (ds_set sc_l_law_boxes.nd rfl (by first | exact Or.inl rfl | exact Or.inr rfl) (by decide) ((((dl_cat ((db_var (pv 2)).is (by rfl)) ((dl_lst (dpa_cons ((dl_lst (dpa_cons (dp_int) (dpa_cons (dp_int) (dpa_cons (dp_int) (dpa_nil))))).dp) (dpa_cons ((dl_lst (dpa_cons (dp_int) (dpa_cons (dp_int) (dpa_cons (dp_int) (dpa_cons (dp_int) (dpa_nil)))))).dp) (dpa_cons ((dl_lst (dpa_cons (dp_int) (dpa_cons (dp_int) (dpa_cons (dp_int) (dpa_cons (dp_int) (dpa_cons (dp_int) (dpa_nil))))))).dp) (dpa_cons ((dl_lst (dpa_cons (dp_int) (dpa_cons (dp_int) (dpa_cons (dp_int) (dpa_cons (dp_int) (dpa_nil)))))).dp) (dpa_cons ((dl_lst (dpa_cons (dp_int) (dpa_cons (dp_int) (dpa_cons (dp_int) (dpa_cons (dp_int) (dpa_nil)))))).dp) (dpa_cons ((dl_lst (dpa_cons (dp_int) (dpa_nil))).dp) (dpa_cons ((dl_lst (dpa_cons (dp_int) (dpa_cons (dp_int) (dpa_cons (dp_int) (dpa_nil))))).dp) (dpa_nil))))))))).is)).dp).dd).de))
    (dss_cons (ds_set sc_l_law_boxes.nd rfl (by first | exact Or.inl rfl | exact Or.inr rfl) (by decide) ((((dl_cat ((db_var (pv 2)).is (by rfl)) ((dl_lst (dpa_cons ((dl_lst (dpa_cons (dp_int) (dpa_cons (dp_int) (dpa_cons (dp_int) (dpa_cons (dp_int) (dpa_nil)))))).dp) (dpa_cons ((dl_lst (dpa_cons (dp_int) (dpa_cons (dp_int) (dpa_cons (dp_int) (dpa_nil))))).dp) (dpa_nil)))).is)).dp).dd).de))
    (dss_cons (ds_set sc_l_law_boxes.nd rfl (by first | exact Or.inl rfl | exact Or.inr rfl) (by decide) ((((db_ix (by rfl) (db_var (pv 2)) (dp_bin od_mod (dp_var (pv 1)) (dp_int)) (fun _ _ => rfl)).dp).dd).de))
    (dss_cons (ds_set sc_l_law_boxes.nd rfl (by first | exact Or.inl rfl | exact Or.inr rfl) (by decide) ((dl_lst (dpa_cons (dp_str) (dpa_cons (dp_str) (dpa_cons (dp_str) (dpa_cons (dp_str) (dpa_cons (dp_str) (dpa_nil))))))).de))
    (dss_cons (ds_if ((dpt_cmp (od_eq (by rfl) (u64 hr)) ((dp_bin od_mod (dp_bin od_fdiv (dp_var (pv 1)) (dp_int)) (dp_int)).du) ((dp_int).du) (nomark _)).dt) (dss_one (ds_ixP (pv 4) (dp_bin od_mod (dp_bin od_fdiv (dp_var (pv 1)) (dp_int)) (dp_int)) ((((db_ix (by rfl) (db_var (pv 4)) (dp_bin od_mod (dp_bin od_fdiv (dp_var (pv 1)) (dp_int)) (dp_int)) (fun _ _ => rfl)).dp).dd).de))) (dss_nil))
    (dss_cons (ds_set sc_l_law_boxes.nd rfl (by first | exact Or.inl rfl | exact Or.inr rfl) (by decide) ((dl_lst (dpa_nil)).de))
    (dss_cons (ds_forE (cl := [6]) hp rfl ((did_range1 (by rfl) BI.range (dp_bin (od_add (by rfl)) (dp_int) (dp_bin od_mod (dp_bin od_fdiv (dp_var (pv 1)) (dp_int)) (dp_int)))).ie) (dg_name (pg_name sc_l_law_boxes.nd rfl (by first | exact Or.inl rfl | exact Or.inr rfl))) (by decide) (dss_one (ds_app (pv 5) (((dp_bin (od_add (by rfl)) (dp_tup (dpa_cons ((db_ix (by rfl) (db_var (pv 4)) (dp_var (pv 6)) (fun _ _ => rfl)).dp) (dpa_nil))) (dp_callF G_l_law_box.ok (hr.mono (by decide)) (by rfl) G_l_law_box.loc.mg G_l_law_box.loc.fn.kp G_l_law_box.loc.bi (dpa_cons (dp_var (pv 0)) (dpa_cons (dp_var (pv 6)) (dpa_cons (dp_var (pv 3)) (dpa_nil)))) (gl_cons (gl_cons (gl_cons (gl_nil)))))).dd).de))))
    (dss_one (ds_ret (de_take (pv 5))))))))))))
abbrev st_l_law_due : PySem.Stmt := topS 45
theorem sc_l_law_due : FnScope ["boxes", "many", "names", "name", "low", "high", "first"] ["boxes"] (defScope st_l_law_due) := ⟨rfl, rfl, rfl, by decide +kernel, rfl, by decide +kernel, by decide +kernel⟩
def b_l_law_due : DL.Env → O Fl := sSeq (sSet 1 (fDat (lD (gC (.int 1)))))
    (sSeq (sSet 2 (fL (gLst (gNil))))
    (sSeq (sForE (fWalk (lD (gVar 0))) (hTup 4 (hCons (hName 3) (hCons (hName 4) (hCons (hName 5) (hCons (hName 6) (hNil)))))) [3, 4, 5, 6] (sSeq (sIf (lT (gOr (gCmp D.lt (gVar 4) (gNeg (gC (.int 99)))) (gOr (gCmp D.gt (gVar 5) (gC (.int 99))) (gOr (gNot (gTst (gChain D.le D.le (gVar 4) (gVar 6) (gVar 5)))) (gCmp D.gt (gBin D.sub (gVar 5) (gVar 4)) (gC (.int 19))))))) (sRet (fDat (lD (gC (.int 3))))) (sNx))
    (sSeq (sSet 1 (fDat (lD (gBin D.mul (gVar 1) (gBin D.add (gBin D.sub (gVar 5) (gVar 4)) (gC (.int 1)))))))
    (sSeq (sIf (lT (gCmp D.gt (gVar 1) (gC (.int 400)))) (sRet (fDat (lD (gC (.int 3))))) (sNx))
    (sSeq (sIf (lT (gCmp D.isIn (gVar 3) (asU (gOwn 2)))) (sRet (fDat (lD (gC (.int 4))))) (sNx))
    (sSeq (sIf (lT (gCmp D.eq (gCall1 F_len (asU (gOwn 2))) (gC (.int 4)))) (sRet (fDat (lD (gC (.int 5))))) (sNx))
    (sApp 2 (fDat (lD (gVar 3))))))))))
    (sRet (fDat (lD (gNeg (gC (.int 1))))))))
def F_l_law_due : List S → O S := runF 6 b_l_law_due
theorem ok_l_law_due {P : Program} {w : World} {K : PySem.W.Frag} {mg : Str → Option Value} {base : Heap} {ca : Str → Addr} {a : Addr} {fd : FuncData} (FU : Fun K "_law_due" "_law_due" st_l_law_due a fd)
  (BI : BIT mg) :
  FnOk P w K mg base (L2.CX P w) 1 a fd ["boxes"] (spF ⟨K, ca⟩ 1 [] F_l_law_due) :=
  fn_ok FU sc_l_law_due fun cdv A outer s H E hr => by
  have hp : PassesOwn (model P w) (cxOf (L2.CX P w) P w K mg base ["boxes", "many", "names", "name", "low", "high", "first"] "_law_due" (defScope st_l_law_due) a cdv A outer s H E).A (cxOf (L2.CX P w) P w K mg base ["boxes", "many", "names", "name", "low", "high", "first"] "_law_due" (defScope st_l_law_due) a cdv A outer s H E).env (cxOf (L2.CX P w) P w K mg base ["boxes", "many", "names", "name", "low", "high", "first"] "_law_due" (defScope st_l_law_due) a cdv A outer s H E).xe := passes_of (X := cxOf (L2.CX P w) P w K mg base ["boxes", "many", "names", "name", "low", "high", "first"] "_law_due" (defScope st_l_law_due) a cdv A outer s H E) rfl
  have tk : Takes (cxOf (L2.CX P w) P w K mg base ["boxes", "many", "names", "name", "low", "high", "first"] "_law_due" (defScope st_l_law_due) a cdv A outer s H E) (fun cls d _ H => E cls d H) := takes_of rfl rfl rfl rfl
  exact dss_cons (ds_set sc_l_law_due.nd rfl (by first | exact Or.inl rfl | exact Or.inr rfl) (by decide) (((dp_int).dd).de))
    (dss_cons (ds_set sc_l_law_due.nd rfl (by first | exact Or.inl rfl | exact Or.inr rfl) (by decide) ((dl_lst (dpa_nil)).de))
    (dss_cons (ds_forE (cl := [3, 4, 5, 6]) hp rfl (die_seq (by rfl) ((dp_var (pv 0)).dd)) (dg_tup (by rfl) rfl (dgs_cons (dg_name (pg_name sc_l_law_due.nd rfl (by first | exact Or.inl rfl | exact Or.inr rfl))) (dgs_cons (dg_name (pg_name sc_l_law_due.nd rfl (by first | exact Or.inl rfl | exact Or.inr rfl))) (dgs_cons (dg_name (pg_name sc_l_law_due.nd rfl (by first | exact Or.inl rfl | exact Or.inr rfl))) (dgs_cons (dg_name (pg_name sc_l_law_due.nd rfl (by first | exact Or.inl rfl | exact Or.inr rfl))) (dgs_nil)))))) (by decide) (dss_cons (ds_if (((dpw_or (dpt_cmp od_lt ((dp_var (pv 4)).du) ((dp_neg (dp_int)).du) (nomark _)) (dpw_or (dpt_cmp od_gt ((dp_var (pv 5)).du) ((dp_int).du) (nomark _)) (dpw_or (dpt_not (dpt_chain od_le od_le (dp_var (pv 4)) (dp_var (pv 6)) (dp_var (pv 5)))) (dpw_or1 (dpt_cmp od_gt ((dp_bin od_sub (dp_var (pv 5)) (dp_var (pv 4))).du) ((dp_int).du) (nomark _)))))).dpt).dt) (dss_one (ds_ret (((dp_int).dd).de))) (dss_nil))
    (dss_cons (ds_set sc_l_law_due.nd rfl (by first | exact Or.inl rfl | exact Or.inr rfl) (by decide) (((dp_bin od_mul (dp_var (pv 1)) (dp_bin (od_add (by rfl)) (dp_bin od_sub (dp_var (pv 5)) (dp_var (pv 4))) (dp_int))).dd).de))
    (dss_cons (ds_if ((dpt_cmp od_gt ((dp_var (pv 1)).du) ((dp_int).du) (nomark _)).dt) (dss_one (ds_ret (((dp_int).dd).de))) (dss_nil))
    (dss_cons (ds_if ((dpt_cmp (od_in (by rfl) (u65 hr)) ((dp_var (pv 3)).du) ((db_var (pv 2)).du) (by rfl)).dt) (dss_one (ds_ret (((dp_int).dd).de))) (dss_nil))
    (dss_cons (ds_if ((dpt_cmp (od_eq (by rfl) (u64 hr)) ((dp_call1 (cd_len (by rfl)) (by rfl) BI.len (by decide +kernel) ((db_var (pv 2)).du)).du) ((dp_int).du) (nomark _)).dt) (dss_one (ds_ret (((dp_int).dd).de))) (dss_nil))
    (dss_one (ds_app (pv 2) (((dp_var (pv 3)).dd).de)))))))))
    (dss_one (ds_ret (((dp_neg (dp_int)).dd).de)))))
abbrev st_l_law_refused : PySem.Stmt := topS 46
theorem sc_l_law_refused : FnScope ["text", "told", "e"] ["text"] (defScope st_l_law_refused) := ⟨rfl, rfl, rfl, by decide +kernel, rfl, by decide +kernel, by decide +kernel⟩
def su_l_law_refused (a : Addr) (k : Str) : DL.Env → O Fl := sSeq (sSet 1 (fL (gLst (gCons (gIsE a (k == "TooLong") (gVar 2)) (gCons (gIsE a (k == "NoRow") (gVar 2)) (gCons (gIsE a (k == "NoPlace") (gVar 2)) (gCons (gIsE a (k == "NoMeasure") (gVar 2)) (gNil))))))))
    (sSeq (sSet 1 (fL (gL2 (fun ρ => ((gOwn 1) ρ).bind S.itemsL) (gLst (gCons (gIsE a (k == "Twice") (gVar 2)) (gCons (gIsE a (k == "Full") (gVar 2)) (gCons (gIsE a (k == "NoBox") (gVar 2)) (gCons (gIsE a (k == "NoMark") (gVar 2)) (gNil)))))))))
    (sSeq (sSet 1 (fL (gL2 (fun ρ => ((gOwn 1) ρ).bind S.itemsL) (gLst (gCons (gIsE a (k == "NoSaying") (gVar 2)) (gCons (gIsE a (k == "NoForm") (gVar 2)) (gCons (gIsE a (k == "NoneYet") (gVar 2)) (gCons (gIsE a (k == "NotSeen") (gVar 2)) (gNil)))))))))
    (sApp 1 (fDat (lD (gBl (gNot (gTst (gIsE a true (gVar 2))))))))))
def b_l_law_refused : DL.Env → O Fl := sSeq (sSet 1 (fL (gLst (gNil))))
    (sSeq (sTryAs 2 (hitOf ["NoMeasure", "Twice", "Full"]) (sDrop (fCall [] F_read (xP (gCons (gVar 0) (gNil))))) su_l_law_refused)
    (sRet (fTake 1)))
def F_l_law_refused : List S → O S := runF 2 b_l_law_refused
theorem ok_l_law_refused {P : Program} {w : World} {K : PySem.W.Frag} {mg : Str → Option Value} {base : Heap} {ca : Str → Addr} {a : Addr} {fd : FuncData} (FU : Fun K "_law_refused" "_law_refused" st_l_law_refused a fd)
  (BI : BIT mg) (TT : TryT K mg ca ["NoMeasure", "Twice", "Full"] ["Full", "NoBox", "NoForm", "NoMark", "NoMeasure", "NoPlace", "NoRow", "NoSaying", "NoneYet", "NotSeen", "TooLong", "Twice"]) (hind : ∀ (a : Addr) (k : Str) (ρ : DL.Env), unsetO 2 (su_l_law_refused a k (ρ.set 2 (some (.dat (.ref a))))) = unsetO 2 (su_l_law_refused 0 k (ρ.set 2 (some (.dat (.ref 0)))))) {a_read : Addr} {fd_read : FuncData} (G_read : DefOk P w K mg base ⟨K, ca⟩ 4 "read" "read" st_read ["text"] [] F_read a_read fd_read) :
  FnOk P w K mg base (L2.CX P w) 5 a fd ["text"] (spF ⟨K, ca⟩ 1 [] F_l_law_refused) :=
  fn_ok FU sc_l_law_refused fun cdv A outer s H E hr => by
  have hp : PassesOwn (model P w) (cxOf (L2.CX P w) P w K mg base ["text", "told", "e"] "_law_refused" (defScope st_l_law_refused) a cdv A outer s H E).A (cxOf (L2.CX P w) P w K mg base ["text", "told", "e"] "_law_refused" (defScope st_l_law_refused) a cdv A outer s H E).env (cxOf (L2.CX P w) P w K mg base ["text", "told", "e"] "_law_refused" (defScope st_l_law_refused) a cdv A outer s H E).xe := passes_of (X := cxOf (L2.CX P w) P w K mg base ["text", "told", "e"] "_law_refused" (defScope st_l_law_refused) a cdv A outer s H E) rfl
  have tk : Takes (cxOf (L2.CX P w) P w K mg base ["text", "told", "e"] "_law_refused" (defScope st_l_law_refused) a cdv A outer s H E) (fun cls d _ H => E cls d H) := takes_of rfl rfl rfl rfl
  exact dss_cons (ds_set sc_l_law_refused.nd rfl (by first | exact Or.inl rfl | exact Or.inr rfl) (by decide) ((dl_lst (dpa_nil)).de))
    (dss_cons (ds_try_as' (i := 2) (by rfl) (by rfl) sc_l_law_refused.nd rfl rfl (by decide) ⟨rfl, by decide, Or.inl TT.say⟩ tk TT.hx (fun W pn xe tk hp => dss_one (ds_expr (de_call G_read.ok tk (hr.mono (by decide)) (by rfl) G_read.loc.mg G_read.loc.fn.kp G_read.loc.bi ((dpa_cons (dp_var (pv 0)) (dpa_nil)).dx) (xl_p (gl_cons (gl_nil)))))) (fun k hk a oe pn hz hv => dss_cons (ds_set sc_l_law_refused.nd rfl (by first | exact Or.inl rfl | exact Or.inr rfl) (by decide) ((dl_lst (dpa_cons (dp_isE (TT.exc k (hitOf_mem hk).1) hz hv (by rfl) BI.isinstance (dp_var (pv 2)) (pe_glob (v := .ref (ca "TooLong")) (by rfl) (TT.tm "TooLong" (by decide)) rfl) (fun u r => r) (TT.kit k (hitOf_mem hk).1 "TooLong" (by decide))) (dpa_cons (dp_isE (TT.exc k (hitOf_mem hk).1) hz hv (by rfl) BI.isinstance (dp_var (pv 2)) (pe_glob (v := .ref (ca "NoRow")) (by rfl) (TT.tm "NoRow" (by decide)) rfl) (fun u r => r) (TT.kit k (hitOf_mem hk).1 "NoRow" (by decide))) (dpa_cons (dp_isE (TT.exc k (hitOf_mem hk).1) hz hv (by rfl) BI.isinstance (dp_var (pv 2)) (pe_glob (v := .ref (ca "NoPlace")) (by rfl) (TT.tm "NoPlace" (by decide)) rfl) (fun u r => r) (TT.kit k (hitOf_mem hk).1 "NoPlace" (by decide))) (dpa_cons (dp_isE (TT.exc k (hitOf_mem hk).1) hz hv (by rfl) BI.isinstance (dp_var (pv 2)) (pe_glob (v := .ref (ca "NoMeasure")) (by rfl) (TT.tm "NoMeasure" (by decide)) rfl) (fun u r => r) (TT.kit k (hitOf_mem hk).1 "NoMeasure" (by decide))) (dpa_nil)))))).de))
    (dss_cons (ds_set sc_l_law_refused.nd rfl (by first | exact Or.inl rfl | exact Or.inr rfl) (by decide) ((dl_cat ((db_var (pv 1)).is (by rfl)) ((dl_lst (dpa_cons (dp_isE (TT.exc k (hitOf_mem hk).1) hz hv (by rfl) BI.isinstance (dp_var (pv 2)) (pe_glob (v := .ref (ca "Twice")) (by rfl) (TT.tm "Twice" (by decide)) rfl) (fun u r => r) (TT.kit k (hitOf_mem hk).1 "Twice" (by decide))) (dpa_cons (dp_isE (TT.exc k (hitOf_mem hk).1) hz hv (by rfl) BI.isinstance (dp_var (pv 2)) (pe_glob (v := .ref (ca "Full")) (by rfl) (TT.tm "Full" (by decide)) rfl) (fun u r => r) (TT.kit k (hitOf_mem hk).1 "Full" (by decide))) (dpa_cons (dp_isE (TT.exc k (hitOf_mem hk).1) hz hv (by rfl) BI.isinstance (dp_var (pv 2)) (pe_glob (v := .ref (ca "NoBox")) (by rfl) (TT.tm "NoBox" (by decide)) rfl) (fun u r => r) (TT.kit k (hitOf_mem hk).1 "NoBox" (by decide))) (dpa_cons (dp_isE (TT.exc k (hitOf_mem hk).1) hz hv (by rfl) BI.isinstance (dp_var (pv 2)) (pe_glob (v := .ref (ca "NoMark")) (by rfl) (TT.tm "NoMark" (by decide)) rfl) (fun u r => r) (TT.kit k (hitOf_mem hk).1 "NoMark" (by decide))) (dpa_nil)))))).is)).de))
    (dss_cons (ds_set sc_l_law_refused.nd rfl (by first | exact Or.inl rfl | exact Or.inr rfl) (by decide) ((dl_cat ((db_var (pv 1)).is (by rfl)) ((dl_lst (dpa_cons (dp_isE (TT.exc k (hitOf_mem hk).1) hz hv (by rfl) BI.isinstance (dp_var (pv 2)) (pe_glob (v := .ref (ca "NoSaying")) (by rfl) (TT.tm "NoSaying" (by decide)) rfl) (fun u r => r) (TT.kit k (hitOf_mem hk).1 "NoSaying" (by decide))) (dpa_cons (dp_isE (TT.exc k (hitOf_mem hk).1) hz hv (by rfl) BI.isinstance (dp_var (pv 2)) (pe_glob (v := .ref (ca "NoForm")) (by rfl) (TT.tm "NoForm" (by decide)) rfl) (fun u r => r) (TT.kit k (hitOf_mem hk).1 "NoForm" (by decide))) (dpa_cons (dp_isE (TT.exc k (hitOf_mem hk).1) hz hv (by rfl) BI.isinstance (dp_var (pv 2)) (pe_glob (v := .ref (ca "NoneYet")) (by rfl) (TT.tm "NoneYet" (by decide)) rfl) (fun u r => r) (TT.kit k (hitOf_mem hk).1 "NoneYet" (by decide))) (dpa_cons (dp_isE (TT.exc k (hitOf_mem hk).1) hz hv (by rfl) BI.isinstance (dp_var (pv 2)) (pe_glob (v := .ref (ca "NotSeen")) (by rfl) (TT.tm "NotSeen" (by decide)) rfl) (fun u r => r) (TT.kit k (hitOf_mem hk).1 "NotSeen" (by decide))) (dpa_nil)))))).is)).de))
    (dss_one (ds_app (pv 1) (((dp_not (dp_isE (TT.exc k (hitOf_mem hk).1) hz hv (by rfl) BI.isinstance (dp_var (pv 2)) (pe_bltn (v := .ty "ValueError") (by rfl) BI.ValueError (by decide +kernel) rfl) (fun u r => r) (TT.kitV k (hitOf_mem hk).1))).dd).de)))))) hind)
    (dss_one (ds_ret (de_take (pv 1)))))
abbrev st_law : PySem.Stmt := topS 47
theorem sc_law : FnScope ["script", "cell", "boxes", "text", "due", "box", "k", "part"] ["script"] (defScope st_law) := ⟨rfl, rfl, rfl, by decide +kernel, rfl, by decide +kernel, by decide +kernel⟩
def b_law : DL.Env → O Fl := sSeq (sForE (fWalk (lD (asL (gL2 (gLst (gCons (gC (.int 0)) (gNil))) (gLcut (fun ρ => ((gOwn 0) ρ).bind S.itemsL) (fun _ => some none) (gPart (gC (.int 63)))))))) (hName 1) [1, 2, 3, 4] (sSeq (sSet 2 (fDat (lD (gCallF F_l_law_boxes (gCons (gVar 1) (gNil))))))
    (sSeq (sSet 3 (fDat (lD (gJoin (gC (.str "\n")) (gComp (fun ρ => ((gOwn 2) ρ).bind S.walk) (([("box", 5)] : List (Str × Nat)).map (·.2)) (hName 5) (fun _ => some true) (gJoin (gC (.str " ")) (gL2 (gLst (gCons (gC (.str "box")) (gNil))) (gComp (fun ρ => ((gOwn 5) ρ).bind S.walk) (([("part", 7)] : List (Str × Nat)).map (·.2)) (hName 7) (fun _ => some true) (gCall F_str (gCons (gVar 7) (gNil)))))))))))
    (sSeq (sSet 4 (fDat (lD (gCallF F_l_law_due (gCons (gVar 2) (gNil))))))
    (sSeq (sIf (lT (gAnd (gCmp D.ge (gVar 4) (gC (.int 0))) (gCmp D.ne (gCallF F_l_law_refused (gCons (gVar 3) (gNil))) (asL (gComp (gRange1 (gC (.int 13))) (([("k", 6)] : List (Str × Nat)).map (·.2)) (hName 6) (fun _ => some true) (gBl (gCmp D.eq (gVar 4) (gVar 6)))))))) (sRet (fDat (lD (gC (.bl false))))) (sNx))
    (sIf (lT (gAnd (gCmp D.lt (gVar 4) (gC (.int 0))) (gCmp D.ne (gCallF F_read (gCons (gVar 3) (gNil))) (gTup (gCons (gVar 2) (gCons (asL (gLst (gNil))) (gNil))))))) (sRet (fDat (lD (gC (.bl false))))) (sNx)))))))
    (sRet (fDat (lD (gC (.bl true)))))
def F_law : List S → O S := runF 7 b_law
theorem ok_law {P : Program} {w : World} {K : PySem.W.Frag} {mg : Str → Option Value} {base : Heap} {ca : Str → Addr} {a : Addr} {fd : FuncData} (FU : Fun K "law" "law" st_law a fd)
  (BI : BIT mg) {a_l_law_boxes : Addr} {fd_l_law_boxes : FuncData} (G_l_law_boxes : DefOk P w K mg base ⟨K, ca⟩ 3 "_law_boxes" "_law_boxes" st_l_law_boxes ["cell"] [] F_l_law_boxes a_l_law_boxes fd_l_law_boxes) {a_l_law_due : Addr} {fd_l_law_due : FuncData} (G_l_law_due : DefOk P w K mg base ⟨K, ca⟩ 1 "_law_due" "_law_due" st_l_law_due ["boxes"] [] F_l_law_due a_l_law_due fd_l_law_due) {a_l_law_refused : Addr} {fd_l_law_refused : FuncData} (G_l_law_refused : DefOk P w K mg base ⟨K, ca⟩ 5 "_law_refused" "_law_refused" st_l_law_refused ["text"] [] F_l_law_refused a_l_law_refused fd_l_law_refused) {a_read : Addr} {fd_read : FuncData} (G_read : DefOk P w K mg base ⟨K, ca⟩ 4 "read" "read" st_read ["text"] [] F_read a_read fd_read) :
  FnOk P w K mg base (L2.CX P w) 6 a fd ["script"] (spF ⟨K, ca⟩ 1 [] F_law) :=
  fn_ok FU sc_law fun cdv A outer s H E hr => by
  have hp : PassesOwn (model P w) (cxOf (L2.CX P w) P w K mg base ["script", "cell", "boxes", "text", "due", "box", "k", "part"] "law" (defScope st_law) a cdv A outer s H E).A (cxOf (L2.CX P w) P w K mg base ["script", "cell", "boxes", "text", "due", "box", "k", "part"] "law" (defScope st_law) a cdv A outer s H E).env (cxOf (L2.CX P w) P w K mg base ["script", "cell", "boxes", "text", "due", "box", "k", "part"] "law" (defScope st_law) a cdv A outer s H E).xe := passes_of (X := cxOf (L2.CX P w) P w K mg base ["script", "cell", "boxes", "text", "due", "box", "k", "part"] "law" (defScope st_law) a cdv A outer s H E) rfl
  have tk : Takes (cxOf (L2.CX P w) P w K mg base ["script", "cell", "boxes", "text", "due", "box", "k", "part"] "law" (defScope st_law) a cdv A outer s H E) (fun cls d _ H => E cls d H) := takes_of rfl rfl rfl rfl
  exact dss_cons (ds_forE (cl := [1, 2, 3, 4]) hp rfl (die_seq (by rfl) (((dl_cat ((dl_lst (dpa_cons (dp_int) (dpa_nil))).is) ((dl_cut ((db_var (pv 0)).is (by rfl)) (do_none) (do_some (dp_int))).is)).dp).dd)) (dg_name (pg_name sc_law.nd rfl (by first | exact Or.inl rfl | exact Or.inr rfl))) (by decide) (dss_cons (ds_set sc_law.nd rfl (by first | exact Or.inl rfl | exact Or.inr rfl) (by decide) (((dp_callF G_l_law_boxes.ok (hr.mono (by decide)) (by rfl) G_l_law_boxes.loc.mg G_l_law_boxes.loc.fn.kp G_l_law_boxes.loc.bi (dpa_cons (dp_var (pv 1)) (dpa_nil)) (gl_cons (gl_nil))).dd).de))
    (dss_cons (ds_set sc_law.nd rfl (by first | exact Or.inl rfl | exact Or.inr rfl) (by decide) (((dp_join (dp_str) ((dl_comp (own := [("box", 5)]) rfl sc_law.nd (dip_seq (by rfl) (db_var (pv 2))) (blkOk_by (by first | decide +kernel | rfl)) (by decide) (fun _ _ _ _ _ => dg_name (pg_name sc_law.nd rfl (by first | exact Or.inl rfl | exact Or.inr rfl))) (fun _ _ _ _ _ => dpts_nil) (fun _ _ _ _ _ => dp_join (dp_str) ((dl_cat ((dl_lst (dpa_cons (dp_str) (dpa_nil))).is) ((dl_comp (own := [("part", 7)]) rfl sc_law.nd (dip_seq (by rfl) (db_var (pv 5))) (blkOk_by (by first | decide +kernel | rfl)) (by decide) (fun _ _ _ _ _ => dg_name (pg_name sc_law.nd rfl (by first | exact Or.inl rfl | exact Or.inr rfl))) (fun _ _ _ _ _ => dpts_nil) (fun _ _ _ _ _ => dp_callT cd_str (by rfl) BI.str (by decide +kernel) (dpa_cons (dp_var (pv 7)) (dpa_nil)))).is)).is))).is)).dd).de))
    (dss_cons (ds_set sc_law.nd rfl (by first | exact Or.inl rfl | exact Or.inr rfl) (by decide) (((dp_callF G_l_law_due.ok (hr.mono (by decide)) (by rfl) G_l_law_due.loc.mg G_l_law_due.loc.fn.kp G_l_law_due.loc.bi (dpa_cons (dp_var (pv 2)) (dpa_nil)) (gl_cons (gl_nil))).dd).de))
    (dss_cons (ds_if (((dpw_and (dpt_cmp od_ge ((dp_var (pv 4)).du) ((dp_int).du) (nomark _)) (dpw_and1 (dpt_cmp (od_ne (by rfl) (u64 hr)) ((dp_callF G_l_law_refused.ok (hr.mono (by decide)) (by rfl) G_l_law_refused.loc.mg G_l_law_refused.loc.fn.kp G_l_law_refused.loc.bi (dpa_cons (dp_var (pv 3)) (dpa_nil)) (gl_cons (gl_nil))).du) (((dl_comp (own := [("k", 6)]) rfl sc_law.nd ((did_range1 (by rfl) BI.range (dp_int)).ip) (blkOk_by (by first | decide +kernel | rfl)) (by decide) (fun _ _ _ _ _ => dg_name (pg_name sc_law.nd rfl (by first | exact Or.inl rfl | exact Or.inr rfl))) (fun _ _ _ _ _ => dpts_nil) (fun _ _ _ _ _ => dp_cmpU (od_eq (by rfl) (u64 hr)) ((dp_var (pv 4)).du) ((dp_var (pv 6)).du) (nomark _))).dp).du) (nomark _)))).dpt).dt) (dss_one (ds_ret (((dp_bl).dd).de))) (dss_nil))
    (dss_one (ds_if (((dpw_and (dpt_cmp od_lt ((dp_var (pv 4)).du) ((dp_int).du) (nomark _)) (dpw_and1 (dpt_cmp (od_ne (by rfl) (u64 hr)) ((dp_callF G_read.ok (hr.mono (by decide)) (by rfl) G_read.loc.mg G_read.loc.fn.kp G_read.loc.bi (dpa_cons (dp_var (pv 3)) (dpa_nil)) (gl_cons (gl_nil))).du) ((dp_tup (dpa_cons (dp_var (pv 2)) (dpa_cons ((dl_lst (dpa_nil)).dp) (dpa_nil)))).du) (nomark _)))).dpt).dt) (dss_one (ds_ret (((dp_bl).dd).de))) (dss_nil))))))))
    (dss_one (ds_ret (((dp_bl).dd).de)))

/-! the reader, plainly: words -/
abbrev T (w : List Nat) : D := .str (SX.S w)
abbrev E0 : Str → DL.Env → Prop := fun _ _ => False
def cBox : List Nat := [98, 111, 120]
def barred : List (List Nat) := [cBox, [109, 97, 114, 107], [97, 115, 107], [112, 117, 116], [103, 111], [105, 102], [115, 116, 111, 112], [105, 110], [110, 111, 116]]
theorem barred_eq : G_BARRED = .tup (barred.map fun w => .str (SX.S w)) := by rfl
def letters : List Nat := (List.range 26).map (97 + ·)
def figures : List Nat := (List.range 10).map (48 + ·)
theorem letters_eq : ("abcdefghijklmnopqrstuvwxyz" : Str) = SX.S letters := by rfl
theorem figures_eq : ("0123456789" : Str) = SX.S figures := by rfl
def isName (w : List Nat) : Bool := !(!(decide ((1 : Int) ≤ w.length) && decide ((w.length : Int) ≤ 8)) || decide (w ∈ barred)) && decide (w.filter (fun c => !decide (c ∈ letters)) = [])
theorem okS_signs (w : List Nat) (p : Nat → Bool) (h : okS w = true) : ∀ u ∈ ((w.filter p).map fun n => [n]), okS u = true := fun u hu => by
  obtain ⟨n, hn, rfl⟩ := List.mem_map.mp hu
  have := List.all_eq_true.mp h n (List.mem_filter.mp hn).1
  simpa [okS] using this
theorem is_name_ok (w : List Nat) (hl : w.length ≤ 1000) (ho : okS w = true) : ∃ ρ, F_is_name [.dat (T w)] = .ok (.dat (.bl (isName w))) ρ := by
  have h : WP (F_is_name [.dat (T w)]) (fun s _ => s = .dat (.bl (isName w))) E0 := by
    refine w_run ?_
    intro ρ2 hρ; simp only [List.map_cons, List.map_nil, List.replicate_succ, List.replicate_zero, List.cons_append, List.nil_append] at hρ; subst hρ
    refine w_if (c := !(decide ((1 : Int) ≤ w.length) && decide ((w.length : Int) ≤ 8)) || decide (w ∈ barred)) (by simp (disch := first | omega | (simp only [List.length_cons, List.length_nil, List.length_append, List.length_map]; omega) | assumption | decide) only [Int.reduceToNat, Int.reducePow, Nat.reduceAdd, Nat.reducePow, own_0, own_s, var_0, var_s, c_e, bin_e, cmp_e, tst_e, tru_b, tup_e, cons_e, nil_e, lst_e, lim_ok, asD_e, asU_e, asB_e, asL_e, ix_e, lT_e, lD_e, fDat_e, fL_e, bl_e, not_e, and_e, or_e, neg_e, neg_i, call1_e, call_e, if_e, chain_e, sc1_i, sc1_b, add_i, add_t, sub_i, mul_i, mod_i, fdiv_i, shr_i, pow_i, lt_i, le_i, gt_i, ge_i, eq_i, ne_i, ite_or, ite_and, ite_bl, eq_S, ne_S, len_S, ix_S, atI_0, atI_1, atI_2, atI_3, atI_4, atI_5, part_e, partD_i, cut_e, cut_to, cut_from, SX.S_len, isIn_strT, isIn_strL, in_sign, notIn_sign, len_l, len_t, min_i, max_i, er_lstD, itemsL_lstD, itemsL_lst, walk_lst, walk_tup, walk_lstD, walk_str, ix_lstD, l2_e, range1_e, rng1_i, lI_e, fWalk_e, dwalk_l, dwalk_t, dwalk_s, signs_S, htup_e, hcons_e, hnil_e, clr_n, clr_c, isE_e, isEd_r, lcut_e, cutD_to, str_s, ne_bls, ixl_e, ixt_e, ixo_e, S.er, Option.bind_some, Option.bind_none, Option.map_some, Option.map_none, O.opt_some, O.bind_ok, List.length_cons, List.length_nil, List.length_map, List.set_cons_zero, List.set_cons_succ, List.cons_append, List.nil_append, List.map_cons, List.map_nil, barred_eq]) (fun h => ?_) fun h => ?_
    · refine w_retDS (d := .bl false) (by simp (disch := first | omega | (simp only [List.length_cons, List.length_nil, List.length_append, List.length_map]; omega) | assumption | decide) only [Int.reduceToNat, Int.reducePow, Nat.reduceAdd, Nat.reducePow, own_0, own_s, var_0, var_s, c_e, bin_e, cmp_e, tst_e, tru_b, tup_e, cons_e, nil_e, lst_e, lim_ok, asD_e, asU_e, asB_e, asL_e, ix_e, lT_e, lD_e, fDat_e, fL_e, bl_e, not_e, and_e, or_e, neg_e, neg_i, call1_e, call_e, if_e, chain_e, sc1_i, sc1_b, add_i, add_t, sub_i, mul_i, mod_i, fdiv_i, shr_i, pow_i, lt_i, le_i, gt_i, ge_i, eq_i, ne_i, ite_or, ite_and, ite_bl, eq_S, ne_S, len_S, ix_S, atI_0, atI_1, atI_2, atI_3, atI_4, atI_5, part_e, partD_i, cut_e, cut_to, cut_from, SX.S_len, isIn_strT, isIn_strL, in_sign, notIn_sign, len_l, len_t, min_i, max_i, er_lstD, itemsL_lstD, itemsL_lst, walk_lst, walk_tup, walk_lstD, walk_str, ix_lstD, l2_e, range1_e, rng1_i, lI_e, fWalk_e, dwalk_l, dwalk_t, dwalk_s, signs_S, htup_e, hcons_e, hnil_e, clr_n, clr_c, isE_e, isEd_r, lcut_e, cutD_to, str_s, ne_bls, ixl_e, ixt_e, ixo_e, S.er, Option.bind_some, Option.bind_none, Option.map_some, Option.map_none, O.opt_some, O.bind_ok, List.length_cons, List.length_nil, List.length_map, List.set_cons_zero, List.set_cons_succ, List.cons_append, List.nil_append, List.map_cons, List.map_nil]) ?_
      unfold isName; rw [h]; rfl
    · refine w_nx ?_
      refine w_retD (d := .bl (decide (w.filter (fun c => !decide (c ∈ letters)) = []))) ?_ (by unfold isName; rw [h]; rfl)
      simp only [bl_e, cmp_e, asL_e]
      rw [comp_ok (xs := w) (fun n => T [n]) (fun n => !decide (n ∈ letters)) (fun n => T [n]) (by simp (disch := first | omega | (simp only [List.length_cons, List.length_nil, List.length_append, List.length_map]; omega) | assumption | decide) only [Int.reduceToNat, Int.reducePow, Nat.reduceAdd, Nat.reducePow, own_0, own_s, var_0, var_s, c_e, bin_e, cmp_e, tst_e, tru_b, tup_e, cons_e, nil_e, lst_e, lim_ok, asD_e, asU_e, asB_e, asL_e, ix_e, lT_e, lD_e, fDat_e, fL_e, bl_e, not_e, and_e, or_e, neg_e, neg_i, call1_e, call_e, if_e, chain_e, sc1_i, sc1_b, add_i, add_t, sub_i, mul_i, mod_i, fdiv_i, shr_i, pow_i, lt_i, le_i, gt_i, ge_i, eq_i, ne_i, ite_or, ite_and, ite_bl, eq_S, ne_S, len_S, ix_S, atI_0, atI_1, atI_2, atI_3, atI_4, atI_5, part_e, partD_i, cut_e, cut_to, cut_from, SX.S_len, isIn_strT, isIn_strL, in_sign, notIn_sign, len_l, len_t, min_i, max_i, er_lstD, itemsL_lstD, itemsL_lst, walk_lst, walk_tup, walk_lstD, walk_str, ix_lstD, l2_e, range1_e, rng1_i, lI_e, fWalk_e, dwalk_l, dwalk_t, dwalk_s, signs_S, htup_e, hcons_e, hnil_e, clr_n, clr_c, isE_e, isEd_r, lcut_e, cutD_to, str_s, ne_bls, ixl_e, ixt_e, ixo_e, S.er, Option.bind_some, Option.bind_none, Option.map_some, Option.map_none, O.opt_some, O.bind_ok, List.length_cons, List.length_nil, List.length_map, List.set_cons_zero, List.set_cons_succ, List.cons_append, List.nil_append, List.map_cons, List.map_nil]) (by omega) (fun ρ0 h0 n hn => ⟨_, name_e (by rw [← h0]; rfl), by subst h0; simp (disch := first | omega | (simp only [List.length_cons, List.length_nil, List.length_append, List.length_map]; omega) | assumption | decide) only [Int.reduceToNat, Int.reducePow, Nat.reduceAdd, Nat.reducePow, own_0, own_s, var_0, var_s, c_e, bin_e, cmp_e, tst_e, tru_b, tup_e, cons_e, nil_e, lst_e, lim_ok, asD_e, asU_e, asB_e, asL_e, ix_e, lT_e, lD_e, fDat_e, fL_e, bl_e, not_e, and_e, or_e, neg_e, neg_i, call1_e, call_e, if_e, chain_e, sc1_i, sc1_b, add_i, add_t, sub_i, mul_i, mod_i, fdiv_i, shr_i, pow_i, lt_i, le_i, gt_i, ge_i, eq_i, ne_i, ite_or, ite_and, ite_bl, eq_S, ne_S, len_S, ix_S, atI_0, atI_1, atI_2, atI_3, atI_4, atI_5, part_e, partD_i, cut_e, cut_to, cut_from, SX.S_len, isIn_strT, isIn_strL, in_sign, notIn_sign, len_l, len_t, min_i, max_i, er_lstD, itemsL_lstD, itemsL_lst, walk_lst, walk_tup, walk_lstD, walk_str, ix_lstD, l2_e, range1_e, rng1_i, lI_e, fWalk_e, dwalk_l, dwalk_t, dwalk_s, signs_S, htup_e, hcons_e, hnil_e, clr_n, clr_c, isE_e, isEd_r, lcut_e, cutD_to, str_s, ne_bls, ixl_e, ixt_e, ixo_e, S.er, Option.bind_some, Option.bind_none, Option.map_some, Option.map_none, O.opt_some, O.bind_ok, List.length_cons, List.length_nil, List.length_map, List.set_cons_zero, List.set_cons_succ, List.cons_append, List.nil_append, List.map_cons, List.map_nil, wipe_n, wipe_c, letters_eq], fun _ => by subst h0; simp (disch := first | omega | (simp only [List.length_cons, List.length_nil, List.length_append, List.length_map]; omega) | assumption | decide) only [Int.reduceToNat, Int.reducePow, Nat.reduceAdd, Nat.reducePow, own_0, own_s, var_0, var_s, c_e, bin_e, cmp_e, tst_e, tru_b, tup_e, cons_e, nil_e, lst_e, lim_ok, asD_e, asU_e, asB_e, asL_e, ix_e, lT_e, lD_e, fDat_e, fL_e, bl_e, not_e, and_e, or_e, neg_e, neg_i, call1_e, call_e, if_e, chain_e, sc1_i, sc1_b, add_i, add_t, sub_i, mul_i, mod_i, fdiv_i, shr_i, pow_i, lt_i, le_i, gt_i, ge_i, eq_i, ne_i, ite_or, ite_and, ite_bl, eq_S, ne_S, len_S, ix_S, atI_0, atI_1, atI_2, atI_3, atI_4, atI_5, part_e, partD_i, cut_e, cut_to, cut_from, SX.S_len, isIn_strT, isIn_strL, in_sign, notIn_sign, len_l, len_t, min_i, max_i, er_lstD, itemsL_lstD, itemsL_lst, walk_lst, walk_tup, walk_lstD, walk_str, ix_lstD, l2_e, range1_e, rng1_i, lI_e, fWalk_e, dwalk_l, dwalk_t, dwalk_s, signs_S, htup_e, hcons_e, hnil_e, clr_n, clr_c, isE_e, isEd_r, lcut_e, cutD_to, str_s, ne_bls, ixl_e, ixt_e, ixo_e, S.er, Option.bind_some, Option.bind_none, Option.map_some, Option.map_none, O.opt_some, O.bind_ok, List.length_cons, List.length_nil, List.length_map, List.set_cons_zero, List.set_cons_succ, List.cons_append, List.nil_append, List.map_cons, List.map_nil, wipe_n, wipe_c]⟩)]
      rw [show ((w.filter (fun n => !decide (n ∈ letters))).map fun n => T [n]) = (((w.filter (fun n => !decide (n ∈ letters))).map fun n => [n]).map fun u => T u) from by rw [List.map_map]; rfl]
      simp (disch := first | omega | (simp only [List.length_cons, List.length_nil, List.length_append, List.length_map]; omega) | assumption | decide) only [Int.reduceToNat, Int.reducePow, Nat.reduceAdd, Nat.reducePow, own_0, own_s, var_0, var_s, c_e, bin_e, cmp_e, tst_e, tru_b, tup_e, cons_e, nil_e, lst_e, lim_ok, asD_e, asU_e, asB_e, asL_e, ix_e, lT_e, lD_e, fDat_e, fL_e, bl_e, not_e, and_e, or_e, neg_e, neg_i, call1_e, call_e, if_e, chain_e, sc1_i, sc1_b, add_i, add_t, sub_i, mul_i, mod_i, fdiv_i, shr_i, pow_i, lt_i, le_i, gt_i, ge_i, eq_i, ne_i, ite_or, ite_and, ite_bl, eq_S, ne_S, len_S, ix_S, atI_0, atI_1, atI_2, atI_3, atI_4, atI_5, part_e, partD_i, cut_e, cut_to, cut_from, SX.S_len, isIn_strT, isIn_strL, in_sign, notIn_sign, len_l, len_t, min_i, max_i, er_lstD, itemsL_lstD, itemsL_lst, walk_lst, walk_tup, walk_lstD, walk_str, ix_lstD, l2_e, range1_e, rng1_i, lI_e, fWalk_e, dwalk_l, dwalk_t, dwalk_s, signs_S, htup_e, hcons_e, hnil_e, clr_n, clr_c, isE_e, isEd_r, lcut_e, cutD_to, str_s, ne_bls, ixl_e, ixt_e, ixo_e, S.er, Option.bind_some, Option.bind_none, Option.map_some, Option.map_none, O.opt_some, O.bind_ok, List.length_cons, List.length_nil, List.length_map, List.set_cons_zero, List.set_cons_succ, List.cons_append, List.nil_append, List.map_cons, List.map_nil]
      rw [show (D.lst []) = .lst ((([] : List (List Nat))).map fun u => T u) from rfl, eq_strs (okS_signs w _ ho) (by simp)]
      simp [tru]
  obtain ⟨s, ρ, e, rfl⟩ := h.ok
  exact ⟨ρ, e⟩
def badPlain (w : List Nat) : Bool := !(decide ((1 : Int) ≤ w.length) && decide ((w.length : Int) ≤ 3)) || (decide (w.take 1 = [48]) && !decide (w = [48]))
def isPlain (w : List Nat) : Bool := !badPlain w && decide (w.filter (fun c => !decide (c ∈ figures)) = [])
theorem is_plain_ok (w : List Nat) (hl : w.length ≤ 1000) (ho : okS w = true) : ∃ ρ, F_is_plain_number [.dat (T w)] = .ok (.dat (.bl (isPlain w))) ρ := by
  have h : WP (F_is_plain_number [.dat (T w)]) (fun s _ => s = .dat (.bl (isPlain w))) E0 := by
    refine w_run ?_
    intro ρ2 hρ; simp only [List.map_cons, List.map_nil, List.replicate_succ, List.replicate_zero, List.cons_append, List.nil_append] at hρ; subst hρ
    cases w with
    | nil =>
      refine w_if (c := true) (by simp (disch := first | omega | (simp only [List.length_cons, List.length_nil, List.length_append, List.length_map]; omega) | assumption | decide) only [Int.reduceToNat, Int.reducePow, Nat.reduceAdd, Nat.reducePow, own_0, own_s, var_0, var_s, c_e, bin_e, cmp_e, tst_e, tru_b, tup_e, cons_e, nil_e, lst_e, lim_ok, asD_e, asU_e, asB_e, asL_e, ix_e, lT_e, lD_e, fDat_e, fL_e, bl_e, not_e, and_e, or_e, neg_e, neg_i, call1_e, call_e, if_e, chain_e, sc1_i, sc1_b, add_i, add_t, sub_i, mul_i, mod_i, fdiv_i, shr_i, pow_i, lt_i, le_i, gt_i, ge_i, eq_i, ne_i, ite_or, ite_and, ite_bl, eq_S, ne_S, len_S, ix_S, atI_0, atI_1, atI_2, atI_3, atI_4, atI_5, part_e, partD_i, cut_e, cut_to, cut_from, SX.S_len, isIn_strT, isIn_strL, in_sign, notIn_sign, len_l, len_t, min_i, max_i, er_lstD, itemsL_lstD, itemsL_lst, walk_lst, walk_tup, walk_lstD, walk_str, ix_lstD, l2_e, range1_e, rng1_i, lI_e, fWalk_e, dwalk_l, dwalk_t, dwalk_s, signs_S, htup_e, hcons_e, hnil_e, clr_n, clr_c, isE_e, isEd_r, lcut_e, cutD_to, str_s, ne_bls, ixl_e, ixt_e, ixo_e, S.er, Option.bind_some, Option.bind_none, Option.map_some, Option.map_none, O.opt_some, O.bind_ok, List.length_cons, List.length_nil, List.length_map, List.set_cons_zero, List.set_cons_succ, List.cons_append, List.nil_append, List.map_cons, List.map_nil]; rfl) (fun h => ?_) fun h => by cases h
      exact w_retDS (d := .bl false) (by simp (disch := first | omega | (simp only [List.length_cons, List.length_nil, List.length_append, List.length_map]; omega) | assumption | decide) only [Int.reduceToNat, Int.reducePow, Nat.reduceAdd, Nat.reducePow, own_0, own_s, var_0, var_s, c_e, bin_e, cmp_e, tst_e, tru_b, tup_e, cons_e, nil_e, lst_e, lim_ok, asD_e, asU_e, asB_e, asL_e, ix_e, lT_e, lD_e, fDat_e, fL_e, bl_e, not_e, and_e, or_e, neg_e, neg_i, call1_e, call_e, if_e, chain_e, sc1_i, sc1_b, add_i, add_t, sub_i, mul_i, mod_i, fdiv_i, shr_i, pow_i, lt_i, le_i, gt_i, ge_i, eq_i, ne_i, ite_or, ite_and, ite_bl, eq_S, ne_S, len_S, ix_S, atI_0, atI_1, atI_2, atI_3, atI_4, atI_5, part_e, partD_i, cut_e, cut_to, cut_from, SX.S_len, isIn_strT, isIn_strL, in_sign, notIn_sign, len_l, len_t, min_i, max_i, er_lstD, itemsL_lstD, itemsL_lst, walk_lst, walk_tup, walk_lstD, walk_str, ix_lstD, l2_e, range1_e, rng1_i, lI_e, fWalk_e, dwalk_l, dwalk_t, dwalk_s, signs_S, htup_e, hcons_e, hnil_e, clr_n, clr_c, isE_e, isEd_r, lcut_e, cutD_to, str_s, ne_bls, ixl_e, ixt_e, ixo_e, S.er, Option.bind_some, Option.bind_none, Option.map_some, Option.map_none, O.opt_some, O.bind_ok, List.length_cons, List.length_nil, List.length_map, List.set_cons_zero, List.set_cons_succ, List.cons_append, List.nil_append, List.map_cons, List.map_nil]) rfl
    | cons c r =>
      have ho1 : okS [c] = true := by
        have := List.all_eq_true.mp ho c List.mem_cons_self
        simpa [okS] using this
      refine w_if (c := badPlain (c :: r)) (by rw [show ("0" : Str) = SX.S [48] from rfl]; simp (disch := first | omega | (simp only [List.length_cons, List.length_nil, List.length_append, List.length_map]; omega) | assumption | decide) only [Int.reduceToNat, Int.reducePow, Nat.reduceAdd, Nat.reducePow, own_0, own_s, var_0, var_s, c_e, bin_e, cmp_e, tst_e, tru_b, tup_e, cons_e, nil_e, lst_e, lim_ok, asD_e, asU_e, asB_e, asL_e, ix_e, lT_e, lD_e, fDat_e, fL_e, bl_e, not_e, and_e, or_e, neg_e, neg_i, call1_e, call_e, if_e, chain_e, sc1_i, sc1_b, add_i, add_t, sub_i, mul_i, mod_i, fdiv_i, shr_i, pow_i, lt_i, le_i, gt_i, ge_i, eq_i, ne_i, ite_or, ite_and, ite_bl, eq_S, ne_S, len_S, ix_S, atI_0, atI_1, atI_2, atI_3, atI_4, atI_5, part_e, partD_i, cut_e, cut_to, cut_from, SX.S_len, isIn_strT, isIn_strL, in_sign, notIn_sign, len_l, len_t, min_i, max_i, er_lstD, itemsL_lstD, itemsL_lst, walk_lst, walk_tup, walk_lstD, walk_str, ix_lstD, l2_e, range1_e, rng1_i, lI_e, fWalk_e, dwalk_l, dwalk_t, dwalk_s, signs_S, htup_e, hcons_e, hnil_e, clr_n, clr_c, isE_e, isEd_r, lcut_e, cutD_to, str_s, ne_bls, ixl_e, ixt_e, ixo_e, S.er, Option.bind_some, Option.bind_none, Option.map_some, Option.map_none, O.opt_some, O.bind_ok, List.length_cons, List.length_nil, List.length_map, List.set_cons_zero, List.set_cons_succ, List.cons_append, List.nil_append, List.map_cons, List.map_nil]; rfl) (fun h => ?_) fun h => ?_
      · refine w_retDS (d := .bl false) (by simp (disch := first | omega | (simp only [List.length_cons, List.length_nil, List.length_append, List.length_map]; omega) | assumption | decide) only [Int.reduceToNat, Int.reducePow, Nat.reduceAdd, Nat.reducePow, own_0, own_s, var_0, var_s, c_e, bin_e, cmp_e, tst_e, tru_b, tup_e, cons_e, nil_e, lst_e, lim_ok, asD_e, asU_e, asB_e, asL_e, ix_e, lT_e, lD_e, fDat_e, fL_e, bl_e, not_e, and_e, or_e, neg_e, neg_i, call1_e, call_e, if_e, chain_e, sc1_i, sc1_b, add_i, add_t, sub_i, mul_i, mod_i, fdiv_i, shr_i, pow_i, lt_i, le_i, gt_i, ge_i, eq_i, ne_i, ite_or, ite_and, ite_bl, eq_S, ne_S, len_S, ix_S, atI_0, atI_1, atI_2, atI_3, atI_4, atI_5, part_e, partD_i, cut_e, cut_to, cut_from, SX.S_len, isIn_strT, isIn_strL, in_sign, notIn_sign, len_l, len_t, min_i, max_i, er_lstD, itemsL_lstD, itemsL_lst, walk_lst, walk_tup, walk_lstD, walk_str, ix_lstD, l2_e, range1_e, rng1_i, lI_e, fWalk_e, dwalk_l, dwalk_t, dwalk_s, signs_S, htup_e, hcons_e, hnil_e, clr_n, clr_c, isE_e, isEd_r, lcut_e, cutD_to, str_s, ne_bls, ixl_e, ixt_e, ixo_e, S.er, Option.bind_some, Option.bind_none, Option.map_some, Option.map_none, O.opt_some, O.bind_ok, List.length_cons, List.length_nil, List.length_map, List.set_cons_zero, List.set_cons_succ, List.cons_append, List.nil_append, List.map_cons, List.map_nil]) ?_
        unfold isPlain; rw [h]; rfl
      · refine w_nx ?_
        refine w_retD (d := .bl (decide ((c :: r).filter (fun c => !decide (c ∈ figures)) = []))) ?_ (by unfold isPlain; rw [h]; rfl)
        simp only [bl_e, cmp_e, asL_e]
        rw [comp_ok (xs := c :: r) (fun n => T [n]) (fun n => !decide (n ∈ figures)) (fun n => T [n]) (by simp (disch := first | omega | (simp only [List.length_cons, List.length_nil, List.length_append, List.length_map]; omega) | assumption | decide) only [Int.reduceToNat, Int.reducePow, Nat.reduceAdd, Nat.reducePow, own_0, own_s, var_0, var_s, c_e, bin_e, cmp_e, tst_e, tru_b, tup_e, cons_e, nil_e, lst_e, lim_ok, asD_e, asU_e, asB_e, asL_e, ix_e, lT_e, lD_e, fDat_e, fL_e, bl_e, not_e, and_e, or_e, neg_e, neg_i, call1_e, call_e, if_e, chain_e, sc1_i, sc1_b, add_i, add_t, sub_i, mul_i, mod_i, fdiv_i, shr_i, pow_i, lt_i, le_i, gt_i, ge_i, eq_i, ne_i, ite_or, ite_and, ite_bl, eq_S, ne_S, len_S, ix_S, atI_0, atI_1, atI_2, atI_3, atI_4, atI_5, part_e, partD_i, cut_e, cut_to, cut_from, SX.S_len, isIn_strT, isIn_strL, in_sign, notIn_sign, len_l, len_t, min_i, max_i, er_lstD, itemsL_lstD, itemsL_lst, walk_lst, walk_tup, walk_lstD, walk_str, ix_lstD, l2_e, range1_e, rng1_i, lI_e, fWalk_e, dwalk_l, dwalk_t, dwalk_s, signs_S, htup_e, hcons_e, hnil_e, clr_n, clr_c, isE_e, isEd_r, lcut_e, cutD_to, str_s, ne_bls, ixl_e, ixt_e, ixo_e, S.er, Option.bind_some, Option.bind_none, Option.map_some, Option.map_none, O.opt_some, O.bind_ok, List.length_cons, List.length_nil, List.length_map, List.set_cons_zero, List.set_cons_succ, List.cons_append, List.nil_append, List.map_cons, List.map_nil]) (by omega) (fun ρ0 h0 n hn => ⟨_, name_e (by rw [← h0]; rfl), by subst h0; simp (disch := first | omega | (simp only [List.length_cons, List.length_nil, List.length_append, List.length_map]; omega) | assumption | decide) only [Int.reduceToNat, Int.reducePow, Nat.reduceAdd, Nat.reducePow, own_0, own_s, var_0, var_s, c_e, bin_e, cmp_e, tst_e, tru_b, tup_e, cons_e, nil_e, lst_e, lim_ok, asD_e, asU_e, asB_e, asL_e, ix_e, lT_e, lD_e, fDat_e, fL_e, bl_e, not_e, and_e, or_e, neg_e, neg_i, call1_e, call_e, if_e, chain_e, sc1_i, sc1_b, add_i, add_t, sub_i, mul_i, mod_i, fdiv_i, shr_i, pow_i, lt_i, le_i, gt_i, ge_i, eq_i, ne_i, ite_or, ite_and, ite_bl, eq_S, ne_S, len_S, ix_S, atI_0, atI_1, atI_2, atI_3, atI_4, atI_5, part_e, partD_i, cut_e, cut_to, cut_from, SX.S_len, isIn_strT, isIn_strL, in_sign, notIn_sign, len_l, len_t, min_i, max_i, er_lstD, itemsL_lstD, itemsL_lst, walk_lst, walk_tup, walk_lstD, walk_str, ix_lstD, l2_e, range1_e, rng1_i, lI_e, fWalk_e, dwalk_l, dwalk_t, dwalk_s, signs_S, htup_e, hcons_e, hnil_e, clr_n, clr_c, isE_e, isEd_r, lcut_e, cutD_to, str_s, ne_bls, ixl_e, ixt_e, ixo_e, S.er, Option.bind_some, Option.bind_none, Option.map_some, Option.map_none, O.opt_some, O.bind_ok, List.length_cons, List.length_nil, List.length_map, List.set_cons_zero, List.set_cons_succ, List.cons_append, List.nil_append, List.map_cons, List.map_nil, wipe_n, wipe_c, figures_eq], fun _ => by subst h0; simp (disch := first | omega | (simp only [List.length_cons, List.length_nil, List.length_append, List.length_map]; omega) | assumption | decide) only [Int.reduceToNat, Int.reducePow, Nat.reduceAdd, Nat.reducePow, own_0, own_s, var_0, var_s, c_e, bin_e, cmp_e, tst_e, tru_b, tup_e, cons_e, nil_e, lst_e, lim_ok, asD_e, asU_e, asB_e, asL_e, ix_e, lT_e, lD_e, fDat_e, fL_e, bl_e, not_e, and_e, or_e, neg_e, neg_i, call1_e, call_e, if_e, chain_e, sc1_i, sc1_b, add_i, add_t, sub_i, mul_i, mod_i, fdiv_i, shr_i, pow_i, lt_i, le_i, gt_i, ge_i, eq_i, ne_i, ite_or, ite_and, ite_bl, eq_S, ne_S, len_S, ix_S, atI_0, atI_1, atI_2, atI_3, atI_4, atI_5, part_e, partD_i, cut_e, cut_to, cut_from, SX.S_len, isIn_strT, isIn_strL, in_sign, notIn_sign, len_l, len_t, min_i, max_i, er_lstD, itemsL_lstD, itemsL_lst, walk_lst, walk_tup, walk_lstD, walk_str, ix_lstD, l2_e, range1_e, rng1_i, lI_e, fWalk_e, dwalk_l, dwalk_t, dwalk_s, signs_S, htup_e, hcons_e, hnil_e, clr_n, clr_c, isE_e, isEd_r, lcut_e, cutD_to, str_s, ne_bls, ixl_e, ixt_e, ixo_e, S.er, Option.bind_some, Option.bind_none, Option.map_some, Option.map_none, O.opt_some, O.bind_ok, List.length_cons, List.length_nil, List.length_map, List.set_cons_zero, List.set_cons_succ, List.cons_append, List.nil_append, List.map_cons, List.map_nil, wipe_n, wipe_c]⟩)]
        rw [show (((c :: r).filter (fun n => !decide (n ∈ figures))).map fun n => T [n]) = ((((c :: r).filter (fun n => !decide (n ∈ figures))).map fun n => [n]).map fun u => T u) from by rw [List.map_map]; rfl]
        simp (disch := first | omega | (simp only [List.length_cons, List.length_nil, List.length_append, List.length_map]; omega) | assumption | decide) only [Int.reduceToNat, Int.reducePow, Nat.reduceAdd, Nat.reducePow, own_0, own_s, var_0, var_s, c_e, bin_e, cmp_e, tst_e, tru_b, tup_e, cons_e, nil_e, lst_e, lim_ok, asD_e, asU_e, asB_e, asL_e, ix_e, lT_e, lD_e, fDat_e, fL_e, bl_e, not_e, and_e, or_e, neg_e, neg_i, call1_e, call_e, if_e, chain_e, sc1_i, sc1_b, add_i, add_t, sub_i, mul_i, mod_i, fdiv_i, shr_i, pow_i, lt_i, le_i, gt_i, ge_i, eq_i, ne_i, ite_or, ite_and, ite_bl, eq_S, ne_S, len_S, ix_S, atI_0, atI_1, atI_2, atI_3, atI_4, atI_5, part_e, partD_i, cut_e, cut_to, cut_from, SX.S_len, isIn_strT, isIn_strL, in_sign, notIn_sign, len_l, len_t, min_i, max_i, er_lstD, itemsL_lstD, itemsL_lst, walk_lst, walk_tup, walk_lstD, walk_str, ix_lstD, l2_e, range1_e, rng1_i, lI_e, fWalk_e, dwalk_l, dwalk_t, dwalk_s, signs_S, htup_e, hcons_e, hnil_e, clr_n, clr_c, isE_e, isEd_r, lcut_e, cutD_to, str_s, ne_bls, ixl_e, ixt_e, ixo_e, S.er, Option.bind_some, Option.bind_none, Option.map_some, Option.map_none, O.opt_some, O.bind_ok, List.length_cons, List.length_nil, List.length_map, List.set_cons_zero, List.set_cons_succ, List.cons_append, List.nil_append, List.map_cons, List.map_nil]
        rw [show (D.lst []) = .lst ((([] : List (List Nat))).map fun u => T u) from rfl, eq_strs (okS_signs (c :: r) _ ho) (by simp)]
        simp [tru]
  obtain ⟨s, ρ, e, rfl⟩ := h.ok
  exact ⟨ρ, e⟩
theorem plain_digits {w : List Nat} (h : isPlain w = true) : w ≠ [] ∧ w.length ≤ 3 ∧ w.all (fun c => decide (48 ≤ c) && decide (c ≤ 57)) = true := by
  cases w with
  | nil => cases h
  | cons c r =>
    unfold isPlain badPlain at h
    simp only [Bool.and_eq_true, Bool.not_eq_true', Bool.or_eq_false_iff, Bool.not_eq_false', decide_eq_true_eq] at h
    obtain ⟨⟨⟨h1, h2⟩, h3⟩, h4⟩ := h
    refine ⟨by simp, by omega, ?_⟩
    rw [List.all_eq_true]
    intro d hd
    have := List.filter_eq_nil_iff.mp h4 d hd
    simp only [Bool.not_eq_true', decide_eq_false_iff_not, Decidable.not_not] at this
    unfold figures at this
    obtain ⟨k, hk, rfl⟩ := List.mem_map.mp this
    have := List.mem_range.mp hk
    simp; omega
/-- the number that a word writes -/
def numOf (w : List Nat) : Option Int := if isPlain w then some (NumText.digitsVal w) else if decide (w.take 1 = [45]) && (!decide (w = [45, 48]) && isPlain (w.drop 1)) then some (0 - NumText.digitsVal (w.drop 1)) else none
theorem okS_drop {w : List Nat} {n : Nat} (h : okS w = true) : okS (w.drop n) = true := by
  unfold okS at *
  rw [List.all_eq_true] at *
  exact fun x hx => h x (List.mem_of_mem_drop hx)
theorem okS_take {w : List Nat} {n : Nat} (h : okS w = true) : okS (w.take n) = true := by
  unfold okS at *
  rw [List.all_eq_true] at *
  exact fun x hx => h x (List.mem_of_mem_take hx)
theorem number_of_ok (w : List Nat) (hl : w.length ≤ 1000) (ho : okS w = true) : WP (F_number_of [.dat (T w)]) (fun s ρ => 1 ≤ ρ.length ∧ ∃ i, numOf w = some i ∧ s = .dat (.int i)) (fun k ρ => 1 ≤ ρ.length ∧ numOf w = none ∧ k = "NoRow") := by
  refine w_run ?_
  intro ρ2 hρ; simp only [List.map_cons, List.map_nil, List.replicate_succ, List.replicate_zero, List.cons_append, List.nil_append] at hρ; subst hρ
  obtain ⟨ρ1, e1⟩ := is_plain_ok w hl ho
  obtain ⟨ρ2, e2⟩ := is_plain_ok (w.drop 1) (by rw [List.length_drop]; omega) (okS_drop ho)
  refine w_if (c := isPlain w) (by simp only [tst_e]; rw [callF_e (ds := [T w]) (by simp (disch := first | omega | (simp only [List.length_cons, List.length_nil, List.length_append, List.length_map]; omega) | assumption | decide) only [Int.reduceToNat, Int.reducePow, Nat.reduceAdd, Nat.reducePow, own_0, own_s, var_0, var_s, c_e, bin_e, cmp_e, tst_e, tru_b, tup_e, cons_e, nil_e, lst_e, lim_ok, asD_e, asU_e, asB_e, asL_e, ix_e, lT_e, lD_e, fDat_e, fL_e, bl_e, not_e, and_e, or_e, neg_e, neg_i, call1_e, call_e, if_e, chain_e, sc1_i, sc1_b, add_i, add_t, sub_i, mul_i, mod_i, fdiv_i, shr_i, pow_i, lt_i, le_i, gt_i, ge_i, eq_i, ne_i, ite_or, ite_and, ite_bl, eq_S, ne_S, len_S, ix_S, atI_0, atI_1, atI_2, atI_3, atI_4, atI_5, part_e, partD_i, cut_e, cut_to, cut_from, SX.S_len, isIn_strT, isIn_strL, in_sign, notIn_sign, len_l, len_t, min_i, max_i, er_lstD, itemsL_lstD, itemsL_lst, walk_lst, walk_tup, walk_lstD, walk_str, ix_lstD, l2_e, range1_e, rng1_i, lI_e, fWalk_e, dwalk_l, dwalk_t, dwalk_s, signs_S, htup_e, hcons_e, hnil_e, clr_n, clr_c, isE_e, isEd_r, lcut_e, cutD_to, str_s, ne_bls, ixl_e, ixt_e, ixo_e, S.er, Option.bind_some, Option.bind_none, Option.map_some, Option.map_none, O.opt_some, O.bind_ok, List.length_cons, List.length_nil, List.length_map, List.set_cons_zero, List.set_cons_succ, List.cons_append, List.nil_append, List.map_cons, List.map_nil]) e1]; rfl) (fun h => ?_) fun h => ?_
  · obtain ⟨p1, p2, p3⟩ := plain_digits h
    refine w_retDS (d := .int (NumText.digitsVal w)) (by simp (disch := first | omega | (simp only [List.length_cons, List.length_nil, List.length_append, List.length_map]; omega) | assumption | decide) only [Int.reduceToNat, Int.reducePow, Nat.reduceAdd, Nat.reducePow, own_0, own_s, var_0, var_s, c_e, bin_e, cmp_e, tst_e, tru_b, tup_e, cons_e, nil_e, lst_e, lim_ok, asD_e, asU_e, asB_e, asL_e, ix_e, lT_e, lD_e, fDat_e, fL_e, bl_e, not_e, and_e, or_e, neg_e, neg_i, call1_e, call_e, if_e, chain_e, sc1_i, sc1_b, add_i, add_t, sub_i, mul_i, mod_i, fdiv_i, shr_i, pow_i, lt_i, le_i, gt_i, ge_i, eq_i, ne_i, ite_or, ite_and, ite_bl, eq_S, ne_S, len_S, ix_S, atI_0, atI_1, atI_2, atI_3, atI_4, atI_5, part_e, partD_i, cut_e, cut_to, cut_from, SX.S_len, isIn_strT, isIn_strL, in_sign, notIn_sign, len_l, len_t, min_i, max_i, er_lstD, itemsL_lstD, itemsL_lst, walk_lst, walk_tup, walk_lstD, walk_str, ix_lstD, l2_e, range1_e, rng1_i, lI_e, fWalk_e, dwalk_l, dwalk_t, dwalk_s, signs_S, htup_e, hcons_e, hnil_e, clr_n, clr_c, isE_e, isEd_r, lcut_e, cutD_to, str_s, ne_bls, ixl_e, ixt_e, ixo_e, S.er, Option.bind_some, Option.bind_none, Option.map_some, Option.map_none, O.opt_some, O.bind_ok, List.length_cons, List.length_nil, List.length_map, List.set_cons_zero, List.set_cons_succ, List.cons_append, List.nil_append, List.map_cons, List.map_nil, int_plain p3 p1 (by omega)]) ⟨by simp, _, ?_, rfl⟩
    unfold numOf; rw [if_pos h]
  · refine w_nx ?_
    have hd : (Int.toNat 1) = 1 := rfl
    refine w_if (c := decide (w.take 1 = [45]) && (!decide (w = [45, 48]) && isPlain (w.drop 1))) ?_ (fun h2 => ?_) fun h2 => ?_
    · have ht := okS_take (n := 1) ho
      rw [show ("-" : Str) = SX.S [45] from rfl, show ("-0" : Str) = SX.S [45, 48] from rfl]
      simp only [and_e, tst_e]
      rw [callF_e (ds := [T (w.drop 1)]) (by simp (disch := first | omega | (simp only [List.length_cons, List.length_nil, List.length_append, List.length_map]; omega) | assumption | decide) only [Int.reduceToNat, Int.reducePow, Nat.reduceAdd, Nat.reducePow, own_0, own_s, var_0, var_s, c_e, bin_e, cmp_e, tst_e, tru_b, tup_e, cons_e, nil_e, lst_e, lim_ok, asD_e, asU_e, asB_e, asL_e, ix_e, lT_e, lD_e, fDat_e, fL_e, bl_e, not_e, and_e, or_e, neg_e, neg_i, call1_e, call_e, if_e, chain_e, sc1_i, sc1_b, add_i, add_t, sub_i, mul_i, mod_i, fdiv_i, shr_i, pow_i, lt_i, le_i, gt_i, ge_i, eq_i, ne_i, ite_or, ite_and, ite_bl, eq_S, ne_S, len_S, ix_S, atI_0, atI_1, atI_2, atI_3, atI_4, atI_5, part_e, partD_i, cut_e, cut_to, cut_from, SX.S_len, isIn_strT, isIn_strL, in_sign, notIn_sign, len_l, len_t, min_i, max_i, er_lstD, itemsL_lstD, itemsL_lst, walk_lst, walk_tup, walk_lstD, walk_str, ix_lstD, l2_e, range1_e, rng1_i, lI_e, fWalk_e, dwalk_l, dwalk_t, dwalk_s, signs_S, htup_e, hcons_e, hnil_e, clr_n, clr_c, isE_e, isEd_r, lcut_e, cutD_to, str_s, ne_bls, ixl_e, ixt_e, ixo_e, S.er, Option.bind_some, Option.bind_none, Option.map_some, Option.map_none, O.opt_some, O.bind_ok, List.length_cons, List.length_nil, List.length_map, List.set_cons_zero, List.set_cons_succ, List.cons_append, List.nil_append, List.map_cons, List.map_nil]) e2]
      simp (disch := first | omega | (simp only [List.length_cons, List.length_nil, List.length_append, List.length_map]; omega) | assumption | decide) only [Int.reduceToNat, Int.reducePow, Nat.reduceAdd, Nat.reducePow, own_0, own_s, var_0, var_s, c_e, bin_e, cmp_e, tst_e, tru_b, tup_e, cons_e, nil_e, lst_e, lim_ok, asD_e, asU_e, asB_e, asL_e, ix_e, lT_e, lD_e, fDat_e, fL_e, bl_e, not_e, and_e, or_e, neg_e, neg_i, call1_e, call_e, if_e, chain_e, sc1_i, sc1_b, add_i, add_t, sub_i, mul_i, mod_i, fdiv_i, shr_i, pow_i, lt_i, le_i, gt_i, ge_i, eq_i, ne_i, ite_or, ite_and, ite_bl, eq_S, ne_S, len_S, ix_S, atI_0, atI_1, atI_2, atI_3, atI_4, atI_5, part_e, partD_i, cut_e, cut_to, cut_from, SX.S_len, isIn_strT, isIn_strL, in_sign, notIn_sign, len_l, len_t, min_i, max_i, er_lstD, itemsL_lstD, itemsL_lst, walk_lst, walk_tup, walk_lstD, walk_str, ix_lstD, l2_e, range1_e, rng1_i, lI_e, fWalk_e, dwalk_l, dwalk_t, dwalk_s, signs_S, htup_e, hcons_e, hnil_e, clr_n, clr_c, isE_e, isEd_r, lcut_e, cutD_to, str_s, ne_bls, ixl_e, ixt_e, ixo_e, S.er, Option.bind_some, Option.bind_none, Option.map_some, Option.map_none, O.opt_some, O.bind_ok, List.length_cons, List.length_nil, List.length_map, List.set_cons_zero, List.set_cons_succ, List.cons_append, List.nil_append, List.map_cons, List.map_nil]
    · have h3 := h2
      simp only [Bool.and_eq_true] at h3
      obtain ⟨p1, p2, p3⟩ := plain_digits h3.2.2
      refine w_retDS (d := .int (0 - NumText.digitsVal (w.drop 1))) (by simp (disch := first | omega | (simp only [List.length_cons, List.length_nil, List.length_append, List.length_map]; omega) | assumption | decide) only [Int.reduceToNat, Int.reducePow, Nat.reduceAdd, Nat.reducePow, own_0, own_s, var_0, var_s, c_e, bin_e, cmp_e, tst_e, tru_b, tup_e, cons_e, nil_e, lst_e, lim_ok, asD_e, asU_e, asB_e, asL_e, ix_e, lT_e, lD_e, fDat_e, fL_e, bl_e, not_e, and_e, or_e, neg_e, neg_i, call1_e, call_e, if_e, chain_e, sc1_i, sc1_b, add_i, add_t, sub_i, mul_i, mod_i, fdiv_i, shr_i, pow_i, lt_i, le_i, gt_i, ge_i, eq_i, ne_i, ite_or, ite_and, ite_bl, eq_S, ne_S, len_S, ix_S, atI_0, atI_1, atI_2, atI_3, atI_4, atI_5, part_e, partD_i, cut_e, cut_to, cut_from, SX.S_len, isIn_strT, isIn_strL, in_sign, notIn_sign, len_l, len_t, min_i, max_i, er_lstD, itemsL_lstD, itemsL_lst, walk_lst, walk_tup, walk_lstD, walk_str, ix_lstD, l2_e, range1_e, rng1_i, lI_e, fWalk_e, dwalk_l, dwalk_t, dwalk_s, signs_S, htup_e, hcons_e, hnil_e, clr_n, clr_c, isE_e, isEd_r, lcut_e, cutD_to, str_s, ne_bls, ixl_e, ixt_e, ixo_e, S.er, Option.bind_some, Option.bind_none, Option.map_some, Option.map_none, O.opt_some, O.bind_ok, List.length_cons, List.length_nil, List.length_map, List.set_cons_zero, List.set_cons_succ, List.cons_append, List.nil_append, List.map_cons, List.map_nil, int_plain p3 p1 (by omega)]) ⟨by simp, _, ?_, rfl⟩
      unfold numOf; rw [if_neg (by simp [h]), if_pos h2]
    · refine w_nx (w_raise ⟨by simp, ?_, rfl⟩)
      unfold numOf; rw [if_neg (by rw [h]; decide), if_neg (by rw [h2]; decide)]
theorem named_ok (w : List Nat) (hl : w.length ≤ 1000) (ho : okS w = true) : WP (F_named [.dat (T w)]) (fun s ρ => 1 ≤ ρ.length ∧ isName w = true ∧ s = .dat (T w)) (fun k ρ => 1 ≤ ρ.length ∧ isName w = false ∧ k = "NoRow") := by
  refine w_run ?_
  intro ρ2 hρ; simp only [List.map_cons, List.map_nil, List.replicate_succ, List.replicate_zero, List.cons_append, List.nil_append] at hρ; subst hρ
  obtain ⟨ρ1, e1⟩ := is_name_ok w hl ho
  refine w_if (c := !isName w) (by simp only [not_e, tst_e]; rw [callF_e (ds := [T w]) (by simp (disch := first | omega | (simp only [List.length_cons, List.length_nil, List.length_append, List.length_map]; omega) | assumption | decide) only [Int.reduceToNat, Int.reducePow, Nat.reduceAdd, Nat.reducePow, own_0, own_s, var_0, var_s, c_e, bin_e, cmp_e, tst_e, tru_b, tup_e, cons_e, nil_e, lst_e, lim_ok, asD_e, asU_e, asB_e, asL_e, ix_e, lT_e, lD_e, fDat_e, fL_e, bl_e, not_e, and_e, or_e, neg_e, neg_i, call1_e, call_e, if_e, chain_e, sc1_i, sc1_b, add_i, add_t, sub_i, mul_i, mod_i, fdiv_i, shr_i, pow_i, lt_i, le_i, gt_i, ge_i, eq_i, ne_i, ite_or, ite_and, ite_bl, eq_S, ne_S, len_S, ix_S, atI_0, atI_1, atI_2, atI_3, atI_4, atI_5, part_e, partD_i, cut_e, cut_to, cut_from, SX.S_len, isIn_strT, isIn_strL, in_sign, notIn_sign, len_l, len_t, min_i, max_i, er_lstD, itemsL_lstD, itemsL_lst, walk_lst, walk_tup, walk_lstD, walk_str, ix_lstD, l2_e, range1_e, rng1_i, lI_e, fWalk_e, dwalk_l, dwalk_t, dwalk_s, signs_S, htup_e, hcons_e, hnil_e, clr_n, clr_c, isE_e, isEd_r, lcut_e, cutD_to, str_s, ne_bls, ixl_e, ixt_e, ixo_e, S.er, Option.bind_some, Option.bind_none, Option.map_some, Option.map_none, O.opt_some, O.bind_ok, List.length_cons, List.length_nil, List.length_map, List.set_cons_zero, List.set_cons_succ, List.cons_append, List.nil_append, List.map_cons, List.map_nil]) e1]; rfl) (fun h => ?_) fun h => ?_
  · exact w_raiseS ⟨by simp, by simpa using h, rfl⟩
  · exact w_nx (w_retD (d := T w) (by simp (disch := first | omega | (simp only [List.length_cons, List.length_nil, List.length_append, List.length_map]; omega) | assumption | decide) only [Int.reduceToNat, Int.reducePow, Nat.reduceAdd, Nat.reducePow, own_0, own_s, var_0, var_s, c_e, bin_e, cmp_e, tst_e, tru_b, tup_e, cons_e, nil_e, lst_e, lim_ok, asD_e, asU_e, asB_e, asL_e, ix_e, lT_e, lD_e, fDat_e, fL_e, bl_e, not_e, and_e, or_e, neg_e, neg_i, call1_e, call_e, if_e, chain_e, sc1_i, sc1_b, add_i, add_t, sub_i, mul_i, mod_i, fdiv_i, shr_i, pow_i, lt_i, le_i, gt_i, ge_i, eq_i, ne_i, ite_or, ite_and, ite_bl, eq_S, ne_S, len_S, ix_S, atI_0, atI_1, atI_2, atI_3, atI_4, atI_5, part_e, partD_i, cut_e, cut_to, cut_from, SX.S_len, isIn_strT, isIn_strL, in_sign, notIn_sign, len_l, len_t, min_i, max_i, er_lstD, itemsL_lstD, itemsL_lst, walk_lst, walk_tup, walk_lstD, walk_str, ix_lstD, l2_e, range1_e, rng1_i, lI_e, fWalk_e, dwalk_l, dwalk_t, dwalk_s, signs_S, htup_e, hcons_e, hnil_e, clr_n, clr_c, isE_e, isEd_r, lcut_e, cutD_to, str_s, ne_bls, ixl_e, ixt_e, ixo_e, S.er, Option.bind_some, Option.bind_none, Option.map_some, Option.map_none, O.opt_some, O.bind_ok, List.length_cons, List.length_nil, List.length_map, List.set_cons_zero, List.set_cons_succ, List.cons_append, List.nil_append, List.map_cons, List.map_nil]) ⟨by simp, by simpa using h, rfl⟩)

/-! numbers written -/
def numT (i : Int) : List Nat := if 0 ≤ i then TL.numL i.toNat else 45 :: TL.numL (-i).toNat
theorem toS_num (i : Int) : Str.ofString (toString i) = SX.S (numT i) := by
  unfold numT
  by_cases h : 0 ≤ i
  · rw [if_pos h]
    obtain ⟨n, rfl⟩ := Int.eq_ofNat_of_zero_le h
    exact SX.num_S n
  · rw [if_neg h]
    obtain ⟨n, rfl⟩ : ∃ n : Nat, i = Int.negSucc n := by
      cases i with
      | ofNat n => exact absurd (Int.natCast_nonneg n) h
      | negSucc n => exact ⟨n, rfl⟩
    apply TL.ext_tl
    have h1 : toString (Int.negSucc n) = "-" ++ toString (n + 1) := rfl
    have h2 : (-(Int.negSucc n)).toNat = n + 1 := rfl
    rw [h1, h2, TL.tl_ofString, String.toList_append, List.map_append]
    have h3 := TL.tl_num (n + 1)
    rw [TL.tl_ofString] at h3
    show _ = 45 :: TL.numL (n + 1)
    rw [← h3]
    rfl
theorem plain_num : ∀ n < 1000, isPlain (TL.numL n) = true := by decide +kernel
theorem plain_neg : ∀ n < 1000, 1 ≤ n → (isPlain (45 :: TL.numL n) = false ∧ 45 :: TL.numL n ≠ [45, 48]) := by decide +kernel
theorem numOf_numT {i : Int} (h : -999 ≤ i ∧ i ≤ 999) : numOf (numT i) = some i := by
  unfold numT
  by_cases h0 : 0 ≤ i
  · rw [if_pos h0]
    unfold numOf
    rw [if_pos (plain_num _ (by omega)), TL.numL_val]
    congr 1
    omega
  · rw [if_neg h0]
    obtain ⟨h1, h2⟩ := plain_neg (-i).toNat (by omega) (by omega)
    unfold numOf
    rw [if_neg (by rw [h1]; decide), if_pos]
    · show some (0 - ((NumText.digitsVal (TL.numL (-i).toNat) : Nat) : Int)) = _
      rw [TL.numL_val]
      congr 1
      omega
    · have := plain_num (-i).toNat (by omega)
      show (decide ((45 :: TL.numL (-i).toNat).take 1 = [45]) && (!decide (45 :: TL.numL (-i).toNat = [45, 48]) && isPlain (TL.numL (-i).toNat))) = true
      rw [this, decide_eq_false h2]
      rfl
theorem numT_free {i : Int} {s : Nat} (h : s < 45 ∨ 57 < s) : s ∉ numT i := by
  unfold numT
  split
  · exact TL.numL_free (by omega)
  · intro hm
    rcases List.mem_cons.mp hm with e | e
    · omega
    · exact TL.numL_free (by omega) e
theorem numT_len {i : Int} (h : -999 ≤ i ∧ i ≤ 999) : (numT i).length ≤ 4 := by
  unfold numT
  split
  · have := TL.numL_len (n := i.toNat) (k := 3) (by decide) (by omega)
    omega
  · have := TL.numL_len (n := (-i).toNat) (k := 3) (by decide) (by omega)
    simp only [List.length_cons]
    omega
theorem numT_ok (i : Int) : okS (numT i) = true := by
  unfold okS
  rw [List.all_eq_true]
  intro x hx
  have : ¬ (57 < x) := fun h => numT_free (.inr h) hx
  simp; omega
/-! boxes -/
structure Bx where
  nm : List Nat
  lo : Int
  hi : Int
  fi : Int
def Bx.d (b : Bx) : D := .tup [T b.nm, .int b.lo, .int b.hi, .int b.fi]
def Bx.parts (b : Bx) : List (List Nat) := [cBox, b.nm, numT b.lo, numT b.hi, numT b.fi]
def Bx.row (b : Bx) : List Nat := TL.joinL [32] b.parts
structure Bx.Ok (b : Bx) : Prop where
  nm : isName b.nm = true
  len : b.nm.length ≤ 8
  let_ : ∀ c ∈ b.nm, 97 ≤ c ∧ c ≤ 122
  lo : -999 ≤ b.lo ∧ b.lo ≤ 999
  hi : -999 ≤ b.hi ∧ b.hi ≤ 999
  fi : -999 ≤ b.fi ∧ b.fi ≤ 999
theorem Bx.Ok.ok {b : Bx} (h : b.Ok) : okS b.nm = true := by
  unfold okS
  rw [List.all_eq_true]
  intro x hx
  have := h.let_ x hx
  simp; omega
theorem Bx.Ok.free {b : Bx} (h : b.Ok) {s : Nat} (hs : s < 45) : ∀ p ∈ b.parts, s ∉ p := by
  intro p hp
  unfold Bx.parts at hp
  simp only [List.mem_cons, List.not_mem_nil, or_false] at hp
  rcases hp with rfl | rfl | rfl | rfl | rfl
  · unfold cBox; simp; omega
  · intro hm; have := h.let_ s hm; omega
  · exact numT_free (.inl hs)
  · exact numT_free (.inl hs)
  · exact numT_free (.inl hs)
theorem Bx.Ok.len_row {b : Bx} (h : b.Ok) : b.row.length ≤ 40 := by
  have h1 := h.len
  have h2 := numT_len h.lo
  have h3 := numT_len h.hi
  have h4 := numT_len h.fi
  unfold Bx.row Bx.parts
  simp only [TL.joinL, List.length_append, List.length_cons, List.length_nil]
  unfold cBox
  simp only [List.length_cons, List.length_nil]
  omega
theorem row_told_ok {b : Bx} (h : b.Ok) : ∃ ρ, 1 ≤ ρ.length ∧ F_row_told [.dat (T b.row)] = .ok (.dat (.tup [T cBox, T b.nm, .int b.lo, .int b.hi, .int b.fi])) ρ := by
  have w : WP (F_row_told [.dat (T b.row)]) (fun s ρ => 1 ≤ ρ.length ∧ s = .dat (.tup [T cBox, T b.nm, .int b.lo, .int b.hi, .int b.fi])) E0 := by
    refine w_run ?_
    intro ρ2 hρ; simp only [List.map_cons, List.map_nil, List.replicate_succ, List.replicate_zero, List.cons_append, List.nil_append] at hρ; subst hρ
    refine w_setD (d := .lst (b.parts.map fun p => T p)) ?_ ?_
    · rw [asL_e, split_ok (c := 32) (parts := b.parts) (by simp (disch := first | omega | (simp only [List.length_cons, List.length_nil, List.length_append, List.length_map]; omega) | assumption | decide) only [Int.reduceToNat, Int.reducePow, Nat.reduceAdd, Nat.reducePow, own_0, own_s, var_0, var_s, c_e, bin_e, cmp_e, tst_e, tru_b, tup_e, cons_e, nil_e, lst_e, lim_ok, asD_e, asU_e, asB_e, asL_e, ix_e, lT_e, lD_e, fDat_e, fL_e, bl_e, not_e, and_e, or_e, neg_e, neg_i, call1_e, call_e, if_e, chain_e, sc1_i, sc1_b, add_i, add_t, sub_i, mul_i, mod_i, fdiv_i, shr_i, pow_i, lt_i, le_i, gt_i, ge_i, eq_i, ne_i, ite_or, ite_and, ite_bl, eq_S, ne_S, len_S, ix_S, atI_0, atI_1, atI_2, atI_3, atI_4, atI_5, part_e, partD_i, cut_e, cut_to, cut_from, SX.S_len, isIn_strT, isIn_strL, in_sign, notIn_sign, len_l, len_t, min_i, max_i, er_lstD, itemsL_lstD, itemsL_lst, walk_lst, walk_tup, walk_lstD, walk_str, ix_lstD, l2_e, range1_e, rng1_i, lI_e, fWalk_e, dwalk_l, dwalk_t, dwalk_s, signs_S, htup_e, hcons_e, hnil_e, clr_n, clr_c, isE_e, isEd_r, lcut_e, cutD_to, str_s, ne_bls, ixl_e, ixt_e, ixo_e, S.er, Option.bind_some, Option.bind_none, Option.map_some, Option.map_none, O.opt_some, O.bind_ok, List.length_cons, List.length_nil, List.length_map, List.set_cons_zero, List.set_cons_succ, List.cons_append, List.nil_append, List.map_cons, List.map_nil]; rfl) (by rw [show (" " : Str) = SX.S [32] from rfl]; simp (disch := first | omega | (simp only [List.length_cons, List.length_nil, List.length_append, List.length_map]; omega) | assumption | decide) only [Int.reduceToNat, Int.reducePow, Nat.reduceAdd, Nat.reducePow, own_0, own_s, var_0, var_s, c_e, bin_e, cmp_e, tst_e, tru_b, tup_e, cons_e, nil_e, lst_e, lim_ok, asD_e, asU_e, asB_e, asL_e, ix_e, lT_e, lD_e, fDat_e, fL_e, bl_e, not_e, and_e, or_e, neg_e, neg_i, call1_e, call_e, if_e, chain_e, sc1_i, sc1_b, add_i, add_t, sub_i, mul_i, mod_i, fdiv_i, shr_i, pow_i, lt_i, le_i, gt_i, ge_i, eq_i, ne_i, ite_or, ite_and, ite_bl, eq_S, ne_S, len_S, ix_S, atI_0, atI_1, atI_2, atI_3, atI_4, atI_5, part_e, partD_i, cut_e, cut_to, cut_from, SX.S_len, isIn_strT, isIn_strL, in_sign, notIn_sign, len_l, len_t, min_i, max_i, er_lstD, itemsL_lstD, itemsL_lst, walk_lst, walk_tup, walk_lstD, walk_str, ix_lstD, l2_e, range1_e, rng1_i, lI_e, fWalk_e, dwalk_l, dwalk_t, dwalk_s, signs_S, htup_e, hcons_e, hnil_e, clr_n, clr_c, isE_e, isEd_r, lcut_e, cutD_to, str_s, ne_bls, ixl_e, ixt_e, ixo_e, S.er, Option.bind_some, Option.bind_none, Option.map_some, Option.map_none, O.opt_some, O.bind_ok, List.length_cons, List.length_nil, List.length_map, List.set_cons_zero, List.set_cons_succ, List.cons_append, List.nil_append, List.map_cons, List.map_nil]) (by unfold Bx.parts; simp) (by decide) (h.free (by decide)) (by have := h.len_row; unfold Bx.row at this; omega)]
      rfl
    intro ρ2 hρ; simp only [List.set_cons_zero, List.set_cons_succ] at hρ; subst hρ
    have ep : b.parts.map (fun p => T p) = [T cBox, T b.nm, T (numT b.lo), T (numT b.hi), T (numT b.fi)] := rfl
    rw [ep]
    refine w_if (c := true) ?_ (fun _ => ?_) fun h => by cases h
    · rw [show ("box" : Str) = SX.S cBox from rfl]
      have : okS cBox = true := by decide
      simp (disch := first | omega | (simp only [List.length_cons, List.length_nil, List.length_append, List.length_map]; omega) | assumption | decide) only [Int.reduceToNat, Int.reducePow, Nat.reduceAdd, Nat.reducePow, own_0, own_s, var_0, var_s, c_e, bin_e, cmp_e, tst_e, tru_b, tup_e, cons_e, nil_e, lst_e, lim_ok, asD_e, asU_e, asB_e, asL_e, ix_e, lT_e, lD_e, fDat_e, fL_e, bl_e, not_e, and_e, or_e, neg_e, neg_i, call1_e, call_e, if_e, chain_e, sc1_i, sc1_b, add_i, add_t, sub_i, mul_i, mod_i, fdiv_i, shr_i, pow_i, lt_i, le_i, gt_i, ge_i, eq_i, ne_i, ite_or, ite_and, ite_bl, eq_S, ne_S, len_S, ix_S, atI_0, atI_1, atI_2, atI_3, atI_4, atI_5, part_e, partD_i, cut_e, cut_to, cut_from, SX.S_len, isIn_strT, isIn_strL, in_sign, notIn_sign, len_l, len_t, min_i, max_i, er_lstD, itemsL_lstD, itemsL_lst, walk_lst, walk_tup, walk_lstD, walk_str, ix_lstD, l2_e, range1_e, rng1_i, lI_e, fWalk_e, dwalk_l, dwalk_t, dwalk_s, signs_S, htup_e, hcons_e, hnil_e, clr_n, clr_c, isE_e, isEd_r, lcut_e, cutD_to, str_s, ne_bls, ixl_e, ixt_e, ixo_e, S.er, Option.bind_some, Option.bind_none, Option.map_some, Option.map_none, O.opt_some, O.bind_ok, List.length_cons, List.length_nil, List.length_map, List.set_cons_zero, List.set_cons_succ, List.cons_append, List.nil_append, List.map_cons, List.map_nil]
      rfl
    refine w_rtS (w_dat (w_tup (w_fcons (w_lD (d := T cBox) rfl ?_))))
    refine w_fcons (w_frz (w_call (ds := [T b.nm]) (by simp (disch := first | omega | (simp only [List.length_cons, List.length_nil, List.length_append, List.length_map]; omega) | assumption | decide) only [Int.reduceToNat, Int.reducePow, Nat.reduceAdd, Nat.reducePow, own_0, own_s, var_0, var_s, c_e, bin_e, cmp_e, tst_e, tru_b, tup_e, cons_e, nil_e, lst_e, lim_ok, asD_e, asU_e, asB_e, asL_e, ix_e, lT_e, lD_e, fDat_e, fL_e, bl_e, not_e, and_e, or_e, neg_e, neg_i, call1_e, call_e, if_e, chain_e, sc1_i, sc1_b, add_i, add_t, sub_i, mul_i, mod_i, fdiv_i, shr_i, pow_i, lt_i, le_i, gt_i, ge_i, eq_i, ne_i, ite_or, ite_and, ite_bl, eq_S, ne_S, len_S, ix_S, atI_0, atI_1, atI_2, atI_3, atI_4, atI_5, part_e, partD_i, cut_e, cut_to, cut_from, SX.S_len, isIn_strT, isIn_strL, in_sign, notIn_sign, len_l, len_t, min_i, max_i, er_lstD, itemsL_lstD, itemsL_lst, walk_lst, walk_tup, walk_lstD, walk_str, ix_lstD, l2_e, range1_e, rng1_i, lI_e, fWalk_e, dwalk_l, dwalk_t, dwalk_s, signs_S, htup_e, hcons_e, hnil_e, clr_n, clr_c, isE_e, isEd_r, lcut_e, cutD_to, str_s, ne_bls, ixl_e, ixt_e, ixo_e, S.er, Option.bind_some, Option.bind_none, Option.map_some, Option.map_none, O.opt_some, O.bind_ok, List.length_cons, List.length_nil, List.length_map, List.set_cons_zero, List.set_cons_succ, List.cons_append, List.nil_append, List.map_cons, List.map_nil]) ((named_ok b.nm (by have := h.len; omega) h.ok).imp (fun s ρ ⟨hl, _, e⟩ => ⟨hl, T b.nm, by rw [e]; rfl, ?_⟩) fun k ρ ⟨_, e, _⟩ => by rw [h.nm] at e; cases e)))
    have hn : ∀ (i : Int), -999 ≤ i ∧ i ≤ 999 → ∀ (Q : DL.S → DL.Env → Prop), (∀ ρ, 1 ≤ ρ.length → Q (.dat (.int i)) ρ) → WP (F_number_of [.dat (T (numT i))]) Q E0 := fun i hi Q hq =>
      (number_of_ok (numT i) (by have := numT_len hi; omega) (numT_ok i)).imp (fun s ρ ⟨hl, j, e1, e2⟩ => by
        rw [numOf_numT hi] at e1
        cases e1
        rw [e2]; exact hq ρ hl) fun k ρ ⟨_, e, _⟩ => by rw [numOf_numT hi] at e; cases e
    refine w_fcons (w_frz (w_call (ds := [T (numT b.lo)]) (by simp (disch := first | omega | (simp only [List.length_cons, List.length_nil, List.length_append, List.length_map]; omega) | assumption | decide) only [Int.reduceToNat, Int.reducePow, Nat.reduceAdd, Nat.reducePow, own_0, own_s, var_0, var_s, c_e, bin_e, cmp_e, tst_e, tru_b, tup_e, cons_e, nil_e, lst_e, lim_ok, asD_e, asU_e, asB_e, asL_e, ix_e, lT_e, lD_e, fDat_e, fL_e, bl_e, not_e, and_e, or_e, neg_e, neg_i, call1_e, call_e, if_e, chain_e, sc1_i, sc1_b, add_i, add_t, sub_i, mul_i, mod_i, fdiv_i, shr_i, pow_i, lt_i, le_i, gt_i, ge_i, eq_i, ne_i, ite_or, ite_and, ite_bl, eq_S, ne_S, len_S, ix_S, atI_0, atI_1, atI_2, atI_3, atI_4, atI_5, part_e, partD_i, cut_e, cut_to, cut_from, SX.S_len, isIn_strT, isIn_strL, in_sign, notIn_sign, len_l, len_t, min_i, max_i, er_lstD, itemsL_lstD, itemsL_lst, walk_lst, walk_tup, walk_lstD, walk_str, ix_lstD, l2_e, range1_e, rng1_i, lI_e, fWalk_e, dwalk_l, dwalk_t, dwalk_s, signs_S, htup_e, hcons_e, hnil_e, clr_n, clr_c, isE_e, isEd_r, lcut_e, cutD_to, str_s, ne_bls, ixl_e, ixt_e, ixo_e, S.er, Option.bind_some, Option.bind_none, Option.map_some, Option.map_none, O.opt_some, O.bind_ok, List.length_cons, List.length_nil, List.length_map, List.set_cons_zero, List.set_cons_succ, List.cons_append, List.nil_append, List.map_cons, List.map_nil]) ((hn b.lo h.lo _ fun ρ hl => ?_).imp (fun _ _ h => h) fun _ _ h => h.elim)))
    refine ⟨hl, _, rfl, ?_⟩
    refine w_fcons (w_frz (w_call (ds := [T (numT b.hi)]) (by simp (disch := first | omega | (simp only [List.length_cons, List.length_nil, List.length_append, List.length_map]; omega) | assumption | decide) only [Int.reduceToNat, Int.reducePow, Nat.reduceAdd, Nat.reducePow, own_0, own_s, var_0, var_s, c_e, bin_e, cmp_e, tst_e, tru_b, tup_e, cons_e, nil_e, lst_e, lim_ok, asD_e, asU_e, asB_e, asL_e, ix_e, lT_e, lD_e, fDat_e, fL_e, bl_e, not_e, and_e, or_e, neg_e, neg_i, call1_e, call_e, if_e, chain_e, sc1_i, sc1_b, add_i, add_t, sub_i, mul_i, mod_i, fdiv_i, shr_i, pow_i, lt_i, le_i, gt_i, ge_i, eq_i, ne_i, ite_or, ite_and, ite_bl, eq_S, ne_S, len_S, ix_S, atI_0, atI_1, atI_2, atI_3, atI_4, atI_5, part_e, partD_i, cut_e, cut_to, cut_from, SX.S_len, isIn_strT, isIn_strL, in_sign, notIn_sign, len_l, len_t, min_i, max_i, er_lstD, itemsL_lstD, itemsL_lst, walk_lst, walk_tup, walk_lstD, walk_str, ix_lstD, l2_e, range1_e, rng1_i, lI_e, fWalk_e, dwalk_l, dwalk_t, dwalk_s, signs_S, htup_e, hcons_e, hnil_e, clr_n, clr_c, isE_e, isEd_r, lcut_e, cutD_to, str_s, ne_bls, ixl_e, ixt_e, ixo_e, S.er, Option.bind_some, Option.bind_none, Option.map_some, Option.map_none, O.opt_some, O.bind_ok, List.length_cons, List.length_nil, List.length_map, List.set_cons_zero, List.set_cons_succ, List.cons_append, List.nil_append, List.map_cons, List.map_nil]) ((hn b.hi h.hi _ fun ρ hl => ?_).imp (fun _ _ h => h) fun _ _ h => h.elim)))
    refine ⟨hl, _, rfl, ?_⟩
    refine w_fcons (w_frz (w_call (ds := [T (numT b.fi)]) (by simp (disch := first | omega | (simp only [List.length_cons, List.length_nil, List.length_append, List.length_map]; omega) | assumption | decide) only [Int.reduceToNat, Int.reducePow, Nat.reduceAdd, Nat.reducePow, own_0, own_s, var_0, var_s, c_e, bin_e, cmp_e, tst_e, tru_b, tup_e, cons_e, nil_e, lst_e, lim_ok, asD_e, asU_e, asB_e, asL_e, ix_e, lT_e, lD_e, fDat_e, fL_e, bl_e, not_e, and_e, or_e, neg_e, neg_i, call1_e, call_e, if_e, chain_e, sc1_i, sc1_b, add_i, add_t, sub_i, mul_i, mod_i, fdiv_i, shr_i, pow_i, lt_i, le_i, gt_i, ge_i, eq_i, ne_i, ite_or, ite_and, ite_bl, eq_S, ne_S, len_S, ix_S, atI_0, atI_1, atI_2, atI_3, atI_4, atI_5, part_e, partD_i, cut_e, cut_to, cut_from, SX.S_len, isIn_strT, isIn_strL, in_sign, notIn_sign, len_l, len_t, min_i, max_i, er_lstD, itemsL_lstD, itemsL_lst, walk_lst, walk_tup, walk_lstD, walk_str, ix_lstD, l2_e, range1_e, rng1_i, lI_e, fWalk_e, dwalk_l, dwalk_t, dwalk_s, signs_S, htup_e, hcons_e, hnil_e, clr_n, clr_c, isE_e, isEd_r, lcut_e, cutD_to, str_s, ne_bls, ixl_e, ixt_e, ixo_e, S.er, Option.bind_some, Option.bind_none, Option.map_some, Option.map_none, O.opt_some, O.bind_ok, List.length_cons, List.length_nil, List.length_map, List.set_cons_zero, List.set_cons_succ, List.cons_append, List.nil_append, List.map_cons, List.map_nil]) ((hn b.fi h.fi _ fun ρ hl => ?_).imp (fun _ _ h => h) fun _ _ h => h.elim)))
    refine ⟨hl, _, rfl, ?_⟩
    exact w_fnil ⟨by simp, by simp, rfl⟩
  obtain ⟨s, ρ, e, hl, rfl⟩ := w.ok
  exact ⟨ρ, hl, e⟩

/-! the reading -/
abbrev rdN : List Str := ["boxes", "names", "told", "marks", "many"]
/-- a reading of boxes alone -/
def rdS (bs : List Bx) (many : Int) : DL.S := .ins "Reading" rdN [lstD (bs.map Bx.d), lstD (bs.map fun b => T b.nm), lstD [], .dic [] [], .dat (.int many)]
theorem init_ok : F_Reading___init__ [.ins "Reading" [] []] = .ok (.dat .non) [some (rdS [] 1)] := by rfl
theorem rd_boxes {bs : List Bx} {many : Int} : S.fld "Reading" "boxes" (rdS bs many) = some (lstD (bs.map Bx.d)) := by rfl
theorem rd_names {bs : List Bx} {many : Int} : S.fld "Reading" "names" (rdS bs many) = some (lstD (bs.map fun b => T b.nm)) := by rfl
theorem rd_told {bs : List Bx} {many : Int} : S.fld "Reading" "told" (rdS bs many) = some (lstD []) := by rfl
theorem rd_many {bs : List Bx} {many : Int} : S.fld "Reading" "many" (rdS bs many) = some (.dat (.int many)) := by rfl
/-- what is due to a box -/
def badM (b : Bx) : Bool := decide (b.lo < 0 - 99) || (decide (99 < b.hi) || (!(decide (b.lo ≤ b.fi) && decide (b.fi ≤ b.hi)) || decide (19 < b.hi - b.lo)))
def manyM (many : Int) (b : Bx) : Int := many * (b.hi - b.lo + 1)
def dueB (bs : List Bx) (many : Int) (b : Bx) : Option Str :=
  if badM b then some "NoMeasure" else if 400 < manyM many b then some "NoMeasure" else if b.nm ∈ bs.map Bx.nm then some "Twice" else if bs.length = 4 then some "Full" else none
theorem box_read_ok (bs : List Bx) (many : Int) (b : Bx) (hb : bs.length ≤ 10) (hm : 1 ≤ many ∧ many ≤ 400) (h : b.Ok) :
    WP (F_Reading_box_read [rdS bs many, .dat (T b.nm), .dat (.int b.lo), .dat (.int b.hi), .dat (.int b.fi)])
      (fun s ρ => dueB bs many b = none ∧ ∃ ρ', ρ = some (rdS (bs ++ [b]) (manyM many b)) :: ρ' ∧ 4 ≤ ρ'.length)
      (fun k ρ => dueB bs many b = some k ∧ ∃ r ρ', ρ = r :: ρ' ∧ 4 ≤ ρ'.length) := by
  refine w_run ?_
  intro ρ2 hρ; simp only [List.map_cons, List.map_nil, List.replicate_succ, List.replicate_zero, List.cons_append, List.nil_append] at hρ; subst hρ
  have hl0 := h.lo
  have hl1 := h.hi
  have hl2 := h.fi
  refine w_if (c := false) ?_ (fun h => by cases h) fun _ => w_nx ?_
  · simp (disch := first | omega | (simp only [List.length_cons, List.length_nil, List.length_append, List.length_map]; omega) | assumption | decide) only [Int.reduceToNat, Int.reducePow, Nat.reduceAdd, Nat.reducePow, own_0, own_s, var_0, var_s, c_e, bin_e, cmp_e, tst_e, tru_b, tup_e, cons_e, nil_e, lst_e, lim_ok, asD_e, asU_e, asB_e, asL_e, ix_e, lT_e, lD_e, fDat_e, fL_e, bl_e, not_e, and_e, or_e, neg_e, neg_i, call1_e, call_e, if_e, chain_e, sc1_i, sc1_b, add_i, add_t, sub_i, mul_i, mod_i, fdiv_i, shr_i, pow_i, lt_i, le_i, gt_i, ge_i, eq_i, ne_i, ite_or, ite_and, ite_bl, eq_S, ne_S, len_S, ix_S, atI_0, atI_1, atI_2, atI_3, atI_4, atI_5, part_e, partD_i, cut_e, cut_to, cut_from, SX.S_len, isIn_strT, isIn_strL, in_sign, notIn_sign, len_l, len_t, min_i, max_i, er_lstD, itemsL_lstD, itemsL_lst, walk_lst, walk_tup, walk_lstD, walk_str, ix_lstD, l2_e, range1_e, rng1_i, lI_e, fWalk_e, dwalk_l, dwalk_t, dwalk_s, signs_S, htup_e, hcons_e, hnil_e, clr_n, clr_c, isE_e, isEd_r, lcut_e, cutD_to, str_s, ne_bls, ixl_e, ixt_e, ixo_e, S.er, Option.bind_some, Option.bind_none, Option.map_some, Option.map_none, O.opt_some, O.bind_ok, List.length_cons, List.length_nil, List.length_map, List.set_cons_zero, List.set_cons_succ, List.cons_append, List.nil_append, List.map_cons, List.map_nil, fld_e, rd_told]
    rw [show D.ne (.lst []) (.lst []) = some (.bl false) from rfl]
    rfl
  refine w_if (c := badM b) (by simp (disch := first | omega | (simp only [List.length_cons, List.length_nil, List.length_append, List.length_map]; omega) | assumption | decide) only [Int.reduceToNat, Int.reducePow, Nat.reduceAdd, Nat.reducePow, own_0, own_s, var_0, var_s, c_e, bin_e, cmp_e, tst_e, tru_b, tup_e, cons_e, nil_e, lst_e, lim_ok, asD_e, asU_e, asB_e, asL_e, ix_e, lT_e, lD_e, fDat_e, fL_e, bl_e, not_e, and_e, or_e, neg_e, neg_i, call1_e, call_e, if_e, chain_e, sc1_i, sc1_b, add_i, add_t, sub_i, mul_i, mod_i, fdiv_i, shr_i, pow_i, lt_i, le_i, gt_i, ge_i, eq_i, ne_i, ite_or, ite_and, ite_bl, eq_S, ne_S, len_S, ix_S, atI_0, atI_1, atI_2, atI_3, atI_4, atI_5, part_e, partD_i, cut_e, cut_to, cut_from, SX.S_len, isIn_strT, isIn_strL, in_sign, notIn_sign, len_l, len_t, min_i, max_i, er_lstD, itemsL_lstD, itemsL_lst, walk_lst, walk_tup, walk_lstD, walk_str, ix_lstD, l2_e, range1_e, rng1_i, lI_e, fWalk_e, dwalk_l, dwalk_t, dwalk_s, signs_S, htup_e, hcons_e, hnil_e, clr_n, clr_c, isE_e, isEd_r, lcut_e, cutD_to, str_s, ne_bls, ixl_e, ixt_e, ixo_e, S.er, Option.bind_some, Option.bind_none, Option.map_some, Option.map_none, O.opt_some, O.bind_ok, List.length_cons, List.length_nil, List.length_map, List.set_cons_zero, List.set_cons_succ, List.cons_append, List.nil_append, List.map_cons, List.map_nil]; rfl) (fun e => w_raiseS ⟨by unfold dueB; rw [if_pos e], _, _, rfl, by simp⟩) fun e1 => w_nx ?_
  have hb1 : -99 ≤ b.lo ∧ b.hi ≤ 99 ∧ b.lo ≤ b.fi ∧ b.fi ≤ b.hi ∧ b.hi - b.lo ≤ 19 := by
    unfold badM at e1
    simp only [Bool.or_eq_false_iff, Bool.not_eq_false', Bool.and_eq_true, decide_eq_true_eq, decide_eq_false_iff_not] at e1
    omega
  refine w_seq (ρ1 := [some (rdS bs (manyM many b)), some (.dat (T b.nm)), some (.dat (.int b.lo)), some (.dat (.int b.hi)), some (.dat (.int b.fi))]) ((fldP_ok (s := .dat (.int (manyM many b))) (by simp (disch := first | omega | (simp only [List.length_cons, List.length_nil, List.length_append, List.length_map]; omega) | assumption | decide) only [Int.reduceToNat, Int.reducePow, Nat.reduceAdd, Nat.reducePow, own_0, own_s, var_0, var_s, c_e, bin_e, cmp_e, tst_e, tru_b, tup_e, cons_e, nil_e, lst_e, lim_ok, asD_e, asU_e, asB_e, asL_e, ix_e, lT_e, lD_e, fDat_e, fL_e, bl_e, not_e, and_e, or_e, neg_e, neg_i, call1_e, call_e, if_e, chain_e, sc1_i, sc1_b, add_i, add_t, sub_i, mul_i, mod_i, fdiv_i, shr_i, pow_i, lt_i, le_i, gt_i, ge_i, eq_i, ne_i, ite_or, ite_and, ite_bl, eq_S, ne_S, len_S, ix_S, atI_0, atI_1, atI_2, atI_3, atI_4, atI_5, part_e, partD_i, cut_e, cut_to, cut_from, SX.S_len, isIn_strT, isIn_strL, in_sign, notIn_sign, len_l, len_t, min_i, max_i, er_lstD, itemsL_lstD, itemsL_lst, walk_lst, walk_tup, walk_lstD, walk_str, ix_lstD, l2_e, range1_e, rng1_i, lI_e, fWalk_e, dwalk_l, dwalk_t, dwalk_s, signs_S, htup_e, hcons_e, hnil_e, clr_n, clr_c, isE_e, isEd_r, lcut_e, cutD_to, str_s, ne_bls, ixl_e, ixt_e, ixo_e, S.er, Option.bind_some, Option.bind_none, Option.map_some, Option.map_none, O.opt_some, O.bind_ok, List.length_cons, List.length_nil, List.length_map, List.set_cons_zero, List.set_cons_succ, List.cons_append, List.nil_append, List.map_cons, List.map_nil, fld_e, rd_many]; rfl) rfl (by decide) rfl).trans (by rfl)) ?_
  refine w_if (c := decide (400 < manyM many b)) (by simp (disch := first | omega | (simp only [List.length_cons, List.length_nil, List.length_append, List.length_map]; omega) | assumption | decide) only [Int.reduceToNat, Int.reducePow, Nat.reduceAdd, Nat.reducePow, own_0, own_s, var_0, var_s, c_e, bin_e, cmp_e, tst_e, tru_b, tup_e, cons_e, nil_e, lst_e, lim_ok, asD_e, asU_e, asB_e, asL_e, ix_e, lT_e, lD_e, fDat_e, fL_e, bl_e, not_e, and_e, or_e, neg_e, neg_i, call1_e, call_e, if_e, chain_e, sc1_i, sc1_b, add_i, add_t, sub_i, mul_i, mod_i, fdiv_i, shr_i, pow_i, lt_i, le_i, gt_i, ge_i, eq_i, ne_i, ite_or, ite_and, ite_bl, eq_S, ne_S, len_S, ix_S, atI_0, atI_1, atI_2, atI_3, atI_4, atI_5, part_e, partD_i, cut_e, cut_to, cut_from, SX.S_len, isIn_strT, isIn_strL, in_sign, notIn_sign, len_l, len_t, min_i, max_i, er_lstD, itemsL_lstD, itemsL_lst, walk_lst, walk_tup, walk_lstD, walk_str, ix_lstD, l2_e, range1_e, rng1_i, lI_e, fWalk_e, dwalk_l, dwalk_t, dwalk_s, signs_S, htup_e, hcons_e, hnil_e, clr_n, clr_c, isE_e, isEd_r, lcut_e, cutD_to, str_s, ne_bls, ixl_e, ixt_e, ixo_e, S.er, Option.bind_some, Option.bind_none, Option.map_some, Option.map_none, O.opt_some, O.bind_ok, List.length_cons, List.length_nil, List.length_map, List.set_cons_zero, List.set_cons_succ, List.cons_append, List.nil_append, List.map_cons, List.map_nil, fld_e, rd_many]) (fun e => w_raiseS ⟨by unfold dueB; rw [if_neg (by rw [e1]; decide), if_pos (by simpa using e)], _, _, rfl, by simp⟩) fun e2 => w_nx ?_
  refine w_if (c := decide (b.nm ∈ bs.map Bx.nm)) ?_ (fun e => w_raiseS ⟨by unfold dueB; rw [if_neg (by rw [e1]; decide), if_neg (by simpa using e2), if_pos (by simpa using e)], _, _, rfl, by simp⟩) fun e3 => w_nx ?_
  · rw [show decide (b.nm ∈ bs.map Bx.nm) = decide (b.nm ∈ bs.map Bx.nm) from rfl]
    simp (disch := first | omega | (simp only [List.length_cons, List.length_nil, List.length_append, List.length_map]; omega) | assumption | decide) only [Int.reduceToNat, Int.reducePow, Nat.reduceAdd, Nat.reducePow, own_0, own_s, var_0, var_s, c_e, bin_e, cmp_e, tst_e, tru_b, tup_e, cons_e, nil_e, lst_e, lim_ok, asD_e, asU_e, asB_e, asL_e, ix_e, lT_e, lD_e, fDat_e, fL_e, bl_e, not_e, and_e, or_e, neg_e, neg_i, call1_e, call_e, if_e, chain_e, sc1_i, sc1_b, add_i, add_t, sub_i, mul_i, mod_i, fdiv_i, shr_i, pow_i, lt_i, le_i, gt_i, ge_i, eq_i, ne_i, ite_or, ite_and, ite_bl, eq_S, ne_S, len_S, ix_S, atI_0, atI_1, atI_2, atI_3, atI_4, atI_5, part_e, partD_i, cut_e, cut_to, cut_from, SX.S_len, isIn_strT, isIn_strL, in_sign, notIn_sign, len_l, len_t, min_i, max_i, er_lstD, itemsL_lstD, itemsL_lst, walk_lst, walk_tup, walk_lstD, walk_str, ix_lstD, l2_e, range1_e, rng1_i, lI_e, fWalk_e, dwalk_l, dwalk_t, dwalk_s, signs_S, htup_e, hcons_e, hnil_e, clr_n, clr_c, isE_e, isEd_r, lcut_e, cutD_to, str_s, ne_bls, ixl_e, ixt_e, ixo_e, S.er, Option.bind_some, Option.bind_none, Option.map_some, Option.map_none, O.opt_some, O.bind_ok, List.length_cons, List.length_nil, List.length_map, List.set_cons_zero, List.set_cons_succ, List.cons_append, List.nil_append, List.map_cons, List.map_nil, fld_e, rd_names]
    rw [show (bs.map fun b => T b.nm) = ((bs.map Bx.nm).map fun w => .str (SX.S w)) from by rw [List.map_map]; rfl]
    simp (disch := first | omega | (simp only [List.length_cons, List.length_nil, List.length_append, List.length_map]; omega) | assumption | decide) only [Int.reduceToNat, Int.reducePow, Nat.reduceAdd, Nat.reducePow, own_0, own_s, var_0, var_s, c_e, bin_e, cmp_e, tst_e, tru_b, tup_e, cons_e, nil_e, lst_e, lim_ok, asD_e, asU_e, asB_e, asL_e, ix_e, lT_e, lD_e, fDat_e, fL_e, bl_e, not_e, and_e, or_e, neg_e, neg_i, call1_e, call_e, if_e, chain_e, sc1_i, sc1_b, add_i, add_t, sub_i, mul_i, mod_i, fdiv_i, shr_i, pow_i, lt_i, le_i, gt_i, ge_i, eq_i, ne_i, ite_or, ite_and, ite_bl, eq_S, ne_S, len_S, ix_S, atI_0, atI_1, atI_2, atI_3, atI_4, atI_5, part_e, partD_i, cut_e, cut_to, cut_from, SX.S_len, isIn_strT, isIn_strL, in_sign, notIn_sign, len_l, len_t, min_i, max_i, er_lstD, itemsL_lstD, itemsL_lst, walk_lst, walk_tup, walk_lstD, walk_str, ix_lstD, l2_e, range1_e, rng1_i, lI_e, fWalk_e, dwalk_l, dwalk_t, dwalk_s, signs_S, htup_e, hcons_e, hnil_e, clr_n, clr_c, isE_e, isEd_r, lcut_e, cutD_to, str_s, ne_bls, ixl_e, ixt_e, ixo_e, S.er, Option.bind_some, Option.bind_none, Option.map_some, Option.map_none, O.opt_some, O.bind_ok, List.length_cons, List.length_nil, List.length_map, List.set_cons_zero, List.set_cons_succ, List.cons_append, List.nil_append, List.map_cons, List.map_nil]
  refine w_if (c := decide (bs.length = 4)) ?_ (fun e => w_raiseS ⟨by unfold dueB; rw [if_neg (by rw [e1]; decide), if_neg (by simpa using e2), if_neg (by simpa using e3), if_pos (by simpa using e)], _, _, rfl, by simp⟩) fun e4 => w_nx ?_
  · simp (disch := first | omega | (simp only [List.length_cons, List.length_nil, List.length_append, List.length_map]; omega) | assumption | decide) only [Int.reduceToNat, Int.reducePow, Nat.reduceAdd, Nat.reducePow, own_0, own_s, var_0, var_s, c_e, bin_e, cmp_e, tst_e, tru_b, tup_e, cons_e, nil_e, lst_e, lim_ok, asD_e, asU_e, asB_e, asL_e, ix_e, lT_e, lD_e, fDat_e, fL_e, bl_e, not_e, and_e, or_e, neg_e, neg_i, call1_e, call_e, if_e, chain_e, sc1_i, sc1_b, add_i, add_t, sub_i, mul_i, mod_i, fdiv_i, shr_i, pow_i, lt_i, le_i, gt_i, ge_i, eq_i, ne_i, ite_or, ite_and, ite_bl, eq_S, ne_S, len_S, ix_S, atI_0, atI_1, atI_2, atI_3, atI_4, atI_5, part_e, partD_i, cut_e, cut_to, cut_from, SX.S_len, isIn_strT, isIn_strL, in_sign, notIn_sign, len_l, len_t, min_i, max_i, er_lstD, itemsL_lstD, itemsL_lst, walk_lst, walk_tup, walk_lstD, walk_str, ix_lstD, l2_e, range1_e, rng1_i, lI_e, fWalk_e, dwalk_l, dwalk_t, dwalk_s, signs_S, htup_e, hcons_e, hnil_e, clr_n, clr_c, isE_e, isEd_r, lcut_e, cutD_to, str_s, ne_bls, ixl_e, ixt_e, ixo_e, S.er, Option.bind_some, Option.bind_none, Option.map_some, Option.map_none, O.opt_some, O.bind_ok, List.length_cons, List.length_nil, List.length_map, List.set_cons_zero, List.set_cons_succ, List.cons_append, List.nil_append, List.map_cons, List.map_nil, fld_e, rd_boxes]
    simp [tru]
    omega
  refine w_seq (ρ1 := [some (.ins "Reading" rdN [lstD (bs.map Bx.d ++ [b.d]), lstD (bs.map fun b => T b.nm), lstD [], .dic [] [], .dat (.int (manyM many b))]), some (.dat (T b.nm)), some (.dat (.int b.lo)), some (.dat (.int b.hi)), some (.dat (.int b.fi))]) ((appF_ok (k := "Reading") (ns := rdN) (d := b.d) (xs := bs.map Bx.d) (by simp (disch := first | omega | (simp only [List.length_cons, List.length_nil, List.length_append, List.length_map]; omega) | assumption | decide) only [Int.reduceToNat, Int.reducePow, Nat.reduceAdd, Nat.reducePow, own_0, own_s, var_0, var_s, c_e, bin_e, cmp_e, tst_e, tru_b, tup_e, cons_e, nil_e, lst_e, lim_ok, asD_e, asU_e, asB_e, asL_e, ix_e, lT_e, lD_e, fDat_e, fL_e, bl_e, not_e, and_e, or_e, neg_e, neg_i, call1_e, call_e, if_e, chain_e, sc1_i, sc1_b, add_i, add_t, sub_i, mul_i, mod_i, fdiv_i, shr_i, pow_i, lt_i, le_i, gt_i, ge_i, eq_i, ne_i, ite_or, ite_and, ite_bl, eq_S, ne_S, len_S, ix_S, atI_0, atI_1, atI_2, atI_3, atI_4, atI_5, part_e, partD_i, cut_e, cut_to, cut_from, SX.S_len, isIn_strT, isIn_strL, in_sign, notIn_sign, len_l, len_t, min_i, max_i, er_lstD, itemsL_lstD, itemsL_lst, walk_lst, walk_tup, walk_lstD, walk_str, ix_lstD, l2_e, range1_e, rng1_i, lI_e, fWalk_e, dwalk_l, dwalk_t, dwalk_s, signs_S, htup_e, hcons_e, hnil_e, clr_n, clr_c, isE_e, isEd_r, lcut_e, cutD_to, str_s, ne_bls, ixl_e, ixt_e, ixo_e, S.er, Option.bind_some, Option.bind_none, Option.map_some, Option.map_none, O.opt_some, O.bind_ok, List.length_cons, List.length_nil, List.length_map, List.set_cons_zero, List.set_cons_succ, List.cons_append, List.nil_append, List.map_cons, List.map_nil]; rfl) rfl rfl rfl (by rw [List.length_map]; omega)).trans (by rfl)) ?_
  refine wp_ok (a := .nx) (ρ := [some (rdS (bs ++ [b]) (manyM many b)), some (.dat (T b.nm)), some (.dat (.int b.lo)), some (.dat (.int b.hi)), some (.dat (.int b.fi))]) ((appF_ok (k := "Reading") (ns := rdN) (d := T b.nm) (xs := bs.map fun b => T b.nm) (by simp (disch := first | omega | (simp only [List.length_cons, List.length_nil, List.length_append, List.length_map]; omega) | assumption | decide) only [Int.reduceToNat, Int.reducePow, Nat.reduceAdd, Nat.reducePow, own_0, own_s, var_0, var_s, c_e, bin_e, cmp_e, tst_e, tru_b, tup_e, cons_e, nil_e, lst_e, lim_ok, asD_e, asU_e, asB_e, asL_e, ix_e, lT_e, lD_e, fDat_e, fL_e, bl_e, not_e, and_e, or_e, neg_e, neg_i, call1_e, call_e, if_e, chain_e, sc1_i, sc1_b, add_i, add_t, sub_i, mul_i, mod_i, fdiv_i, shr_i, pow_i, lt_i, le_i, gt_i, ge_i, eq_i, ne_i, ite_or, ite_and, ite_bl, eq_S, ne_S, len_S, ix_S, atI_0, atI_1, atI_2, atI_3, atI_4, atI_5, part_e, partD_i, cut_e, cut_to, cut_from, SX.S_len, isIn_strT, isIn_strL, in_sign, notIn_sign, len_l, len_t, min_i, max_i, er_lstD, itemsL_lstD, itemsL_lst, walk_lst, walk_tup, walk_lstD, walk_str, ix_lstD, l2_e, range1_e, rng1_i, lI_e, fWalk_e, dwalk_l, dwalk_t, dwalk_s, signs_S, htup_e, hcons_e, hnil_e, clr_n, clr_c, isE_e, isEd_r, lcut_e, cutD_to, str_s, ne_bls, ixl_e, ixt_e, ixo_e, S.er, Option.bind_some, Option.bind_none, Option.map_some, Option.map_none, O.opt_some, O.bind_ok, List.length_cons, List.length_nil, List.length_map, List.set_cons_zero, List.set_cons_succ, List.cons_append, List.nil_append, List.map_cons, List.map_nil]) rfl rfl rfl (by rw [List.length_map]; omega)).trans ?_) ?_
  · unfold rdS
    rw [List.map_append, List.map_append]
    rfl
  · refine ⟨?_, _, rfl, by simp⟩
    unfold dueB
    rw [if_neg (by rw [e1]; decide), if_neg (by simpa using e2), if_neg (by simpa using e3), if_neg (by simpa using e4)]
/-! read -/
/-- what read answers: the first due class, or none -/
def dueAll (bs : List Bx) (many : Int) : List Bx → Option Str
  | [] => none
  | b :: r => match dueB bs many b with
    | some k => some k
    | none => dueAll (bs ++ [b]) (manyM many b) r
def textOf (bs : List Bx) : List Nat := TL.joinL [10] (bs.map Bx.row)
theorem joinL_len {c : Nat} : ∀ {ps : List (List Nat)} {m : Nat}, (∀ p ∈ ps, p.length ≤ m) → (TL.joinL [c] ps).length ≤ ps.length * (m + 1)
  | [], m, _ => by simp [TL.joinL]
  | [p], m, h => by
    have := h p List.mem_cons_self
    simp [TL.joinL]; omega
  | p :: q :: r, m, h => by
    have h1 := h p List.mem_cons_self
    have h2 := joinL_len (c := c) (ps := q :: r) (m := m) fun x hx => h x (List.mem_cons_of_mem _ hx)
    rw [TL.joinL]
    simp only [List.length_append, List.length_cons, List.length_nil] at h2 ⊢
    rw [Nat.add_mul]
    omega
    all_goals simp
theorem joinL_free {c s : Nat} (hs : s ≠ c) : ∀ {ps : List (List Nat)}, (∀ p ∈ ps, s ∉ p) → s ∉ TL.joinL [c] ps
  | [], _ => by simp [TL.joinL]
  | [p], h => by simpa [TL.joinL] using h p List.mem_cons_self
  | p :: q :: r, h => by
    have h1 := h p List.mem_cons_self
    have h2 := joinL_free hs (ps := q :: r) fun x hx => h x (List.mem_cons_of_mem _ hx)
    rw [TL.joinL]
    · simp only [List.mem_append, List.mem_singleton]
      exact fun e => by rcases e with e | (e | e) <;> first | exact h1 e | exact hs e | exact h2 e
    all_goals simp
theorem manyM_pos {many : Int} {b : Bx} (h : 1 ≤ many) (hb : badM b = false) : 1 ≤ manyM many b := by
  unfold badM at hb
  simp only [Bool.or_eq_false_iff, Bool.not_eq_false', Bool.and_eq_true, decide_eq_true_eq, decide_eq_false_iff_not] at hb
  unfold manyM
  have : 1 ≤ b.hi - b.lo + 1 := by omega
  have := Int.mul_le_mul h this (by decide) (by omega)
  omega
theorem dueB_none {bs : List Bx} {many : Int} {b : Bx} (h : dueB bs many b = none) (hm : 1 ≤ many) : 1 ≤ manyM many b ∧ manyM many b ≤ 400 := by
  unfold dueB at h
  split at h
  · cases h
  · rename_i h1
    split at h
    · cases h
    · rename_i h2
      exact ⟨manyM_pos hm (by simpa using h1), by omega⟩
theorem read_ok (bs : List Bx) (hne : bs ≠ []) (hl : bs.length ≤ 10) (h : ∀ b ∈ bs, b.Ok) :
    WP (F_read [.dat (T (textOf bs))]) (fun s ρ => 1 ≤ ρ.length ∧ dueAll [] 1 bs = none ∧ s = .dat (.tup [.lst (bs.map Bx.d), .lst []])) (fun k ρ => 1 ≤ ρ.length ∧ dueAll [] 1 bs = some k) := by
  refine w_run ?_
  intro ρ2 hρ; simp only [List.map_cons, List.map_nil, List.replicate_succ, List.replicate_zero, List.cons_append, List.nil_append] at hρ; subst hρ
  have hlen : (textOf bs).length ≤ 1000 := by
    have := joinL_len (c := 10) (ps := bs.map Bx.row) (m := 40) fun p hp => by
      obtain ⟨b, hb, rfl⟩ := List.mem_map.mp hp
      exact (h b hb).len_row
    rw [List.length_map] at this
    unfold textOf
    omega
  refine w_setD (d := .lst (bs.map fun b => T b.row)) ?_ ?_
  · rw [asL_e, split_ok (c := 10) (parts := bs.map Bx.row) (by simp (disch := first | omega | (simp only [List.length_cons, List.length_nil, List.length_append, List.length_map]; omega) | assumption | decide) only [Int.reduceToNat, Int.reducePow, Nat.reduceAdd, Nat.reducePow, own_0, own_s, var_0, var_s, c_e, bin_e, cmp_e, tst_e, tru_b, tup_e, cons_e, nil_e, lst_e, lim_ok, asD_e, asU_e, asB_e, asL_e, ix_e, lT_e, lD_e, fDat_e, fL_e, bl_e, not_e, and_e, or_e, neg_e, neg_i, call1_e, call_e, if_e, chain_e, sc1_i, sc1_b, add_i, add_t, sub_i, mul_i, mod_i, fdiv_i, shr_i, pow_i, lt_i, le_i, gt_i, ge_i, eq_i, ne_i, ite_or, ite_and, ite_bl, eq_S, ne_S, len_S, ix_S, atI_0, atI_1, atI_2, atI_3, atI_4, atI_5, part_e, partD_i, cut_e, cut_to, cut_from, SX.S_len, isIn_strT, isIn_strL, in_sign, notIn_sign, len_l, len_t, min_i, max_i, er_lstD, itemsL_lstD, itemsL_lst, walk_lst, walk_tup, walk_lstD, walk_str, ix_lstD, l2_e, range1_e, rng1_i, lI_e, fWalk_e, dwalk_l, dwalk_t, dwalk_s, signs_S, htup_e, hcons_e, hnil_e, clr_n, clr_c, isE_e, isEd_r, lcut_e, cutD_to, str_s, ne_bls, ixl_e, ixt_e, ixo_e, S.er, Option.bind_some, Option.bind_none, Option.map_some, Option.map_none, O.opt_some, O.bind_ok, List.length_cons, List.length_nil, List.length_map, List.set_cons_zero, List.set_cons_succ, List.cons_append, List.nil_append, List.map_cons, List.map_nil]; rfl) (by rw [show ("\n" : Str) = SX.S [10] from rfl]; simp (disch := first | omega | (simp only [List.length_cons, List.length_nil, List.length_append, List.length_map]; omega) | assumption | decide) only [Int.reduceToNat, Int.reducePow, Nat.reduceAdd, Nat.reducePow, own_0, own_s, var_0, var_s, c_e, bin_e, cmp_e, tst_e, tru_b, tup_e, cons_e, nil_e, lst_e, lim_ok, asD_e, asU_e, asB_e, asL_e, ix_e, lT_e, lD_e, fDat_e, fL_e, bl_e, not_e, and_e, or_e, neg_e, neg_i, call1_e, call_e, if_e, chain_e, sc1_i, sc1_b, add_i, add_t, sub_i, mul_i, mod_i, fdiv_i, shr_i, pow_i, lt_i, le_i, gt_i, ge_i, eq_i, ne_i, ite_or, ite_and, ite_bl, eq_S, ne_S, len_S, ix_S, atI_0, atI_1, atI_2, atI_3, atI_4, atI_5, part_e, partD_i, cut_e, cut_to, cut_from, SX.S_len, isIn_strT, isIn_strL, in_sign, notIn_sign, len_l, len_t, min_i, max_i, er_lstD, itemsL_lstD, itemsL_lst, walk_lst, walk_tup, walk_lstD, walk_str, ix_lstD, l2_e, range1_e, rng1_i, lI_e, fWalk_e, dwalk_l, dwalk_t, dwalk_s, signs_S, htup_e, hcons_e, hnil_e, clr_n, clr_c, isE_e, isEd_r, lcut_e, cutD_to, str_s, ne_bls, ixl_e, ixt_e, ixo_e, S.er, Option.bind_some, Option.bind_none, Option.map_some, Option.map_none, O.opt_some, O.bind_ok, List.length_cons, List.length_nil, List.length_map, List.set_cons_zero, List.set_cons_succ, List.cons_append, List.nil_append, List.map_cons, List.map_nil]) (by simpa using hne) (by decide) (fun p hp => by
      obtain ⟨b, hb, rfl⟩ := List.mem_map.mp hp
      exact joinL_free (by decide) ((h b hb).free (by decide))) (by unfold textOf at hlen; omega)]
    rw [List.map_map]
    rfl
  intro ρ2 hρ; simp only [List.set_cons_zero, List.set_cons_succ] at hρ; subst hρ
  refine w_if (c := decide ((60 : Int) < bs.length)) (by simp (disch := first | omega | (simp only [List.length_cons, List.length_nil, List.length_append, List.length_map]; omega) | assumption | decide) only [Int.reduceToNat, Int.reducePow, Nat.reduceAdd, Nat.reducePow, own_0, own_s, var_0, var_s, c_e, bin_e, cmp_e, tst_e, tru_b, tup_e, cons_e, nil_e, lst_e, lim_ok, asD_e, asU_e, asB_e, asL_e, ix_e, lT_e, lD_e, fDat_e, fL_e, bl_e, not_e, and_e, or_e, neg_e, neg_i, call1_e, call_e, if_e, chain_e, sc1_i, sc1_b, add_i, add_t, sub_i, mul_i, mod_i, fdiv_i, shr_i, pow_i, lt_i, le_i, gt_i, ge_i, eq_i, ne_i, ite_or, ite_and, ite_bl, eq_S, ne_S, len_S, ix_S, atI_0, atI_1, atI_2, atI_3, atI_4, atI_5, part_e, partD_i, cut_e, cut_to, cut_from, SX.S_len, isIn_strT, isIn_strL, in_sign, notIn_sign, len_l, len_t, min_i, max_i, er_lstD, itemsL_lstD, itemsL_lst, walk_lst, walk_tup, walk_lstD, walk_str, ix_lstD, l2_e, range1_e, rng1_i, lI_e, fWalk_e, dwalk_l, dwalk_t, dwalk_s, signs_S, htup_e, hcons_e, hnil_e, clr_n, clr_c, isE_e, isEd_r, lcut_e, cutD_to, str_s, ne_bls, ixl_e, ixt_e, ixo_e, S.er, Option.bind_some, Option.bind_none, Option.map_some, Option.map_none, O.opt_some, O.bind_ok, List.length_cons, List.length_nil, List.length_map, List.set_cons_zero, List.set_cons_succ, List.cons_append, List.nil_append, List.map_cons, List.map_nil]) (fun h => by simp at h; omega) fun _ => w_nx ?_
  refine w_set (s := rdS [] 1) (ρ1 := [some (.dat (T (textOf bs))), some (.dat (.lst (bs.map fun b => T b.row))), none, none, none]) (make_ok (k := "Reading") (ds := []) rfl init_ok) ?_
  intro ρ2 hρ; simp only [List.set_cons_zero, List.set_cons_succ] at hρ; subst hρ
  refine w_cut (R := fun fl ρ => fl = .nx ∧ dueAll [] 1 bs = none ∧ ∃ many x, ρ = [some (.dat (T (textOf bs))), some (.dat (.lst (bs.map fun b => T b.row))), some (rdS bs many), none, x]) ?_ ?_ (fun fl ρ' h1 h2 => absurd h2.1 h1)
  · refine w_forE (ds := bs.map fun b => T b.row) (fun j ρ => ∃ many x, (1 ≤ many ∧ many ≤ 400) ∧ dueAll (bs.take j) many (bs.drop j) = dueAll [] 1 bs ∧ ρ = [some (.dat (T (textOf bs))), some (.dat (.lst (bs.map fun b => T b.row))), some (rdS (bs.take j) many), none, x]) (by simp (disch := first | omega | (simp only [List.length_cons, List.length_nil, List.length_append, List.length_map]; omega) | assumption | decide) only [Int.reduceToNat, Int.reducePow, Nat.reduceAdd, Nat.reducePow, own_0, own_s, var_0, var_s, c_e, bin_e, cmp_e, tst_e, tru_b, tup_e, cons_e, nil_e, lst_e, lim_ok, asD_e, asU_e, asB_e, asL_e, ix_e, lT_e, lD_e, fDat_e, fL_e, bl_e, not_e, and_e, or_e, neg_e, neg_i, call1_e, call_e, if_e, chain_e, sc1_i, sc1_b, add_i, add_t, sub_i, mul_i, mod_i, fdiv_i, shr_i, pow_i, lt_i, le_i, gt_i, ge_i, eq_i, ne_i, ite_or, ite_and, ite_bl, eq_S, ne_S, len_S, ix_S, atI_0, atI_1, atI_2, atI_3, atI_4, atI_5, part_e, partD_i, cut_e, cut_to, cut_from, SX.S_len, isIn_strT, isIn_strL, in_sign, notIn_sign, len_l, len_t, min_i, max_i, er_lstD, itemsL_lstD, itemsL_lst, walk_lst, walk_tup, walk_lstD, walk_str, ix_lstD, l2_e, range1_e, rng1_i, lI_e, fWalk_e, dwalk_l, dwalk_t, dwalk_s, signs_S, htup_e, hcons_e, hnil_e, clr_n, clr_c, isE_e, isEd_r, lcut_e, cutD_to, str_s, ne_bls, ixl_e, ixt_e, ixo_e, S.er, Option.bind_some, Option.bind_none, Option.map_some, Option.map_none, O.opt_some, O.bind_ok, List.length_cons, List.length_nil, List.length_map, List.set_cons_zero, List.set_cons_succ, List.cons_append, List.nil_append, List.map_cons, List.map_nil]; rfl) (fun ρ1 h1 => ⟨1, none, by decide, by simp, by rw [← h1]; rfl⟩) ?_ ?_
    · rintro j d ρ hj ⟨many, x, hm, hd, rfl⟩
      obtain ⟨b, hb, rfl⟩ := map_at hj
      have hbm : b ∈ bs := List.mem_of_getElem? hb
      have hjl : j < bs.length := (List.getElem?_eq_some_iff.mp hb).1
      have ed : bs.drop j = b :: bs.drop (j + 1) := by
        rw [List.drop_eq_getElem_cons hjl]
        congr 1
        exact (List.getElem?_eq_some_iff.mp hb).2
      have et : bs.take (j + 1) = bs.take j ++ [b] := by
        rw [List.take_add_one, hb]; rfl
      refine ⟨[some (.dat (T (textOf bs))), some (.dat (.lst (bs.map fun b => T b.row))), some (rdS (bs.take j) many), some (.dat (T b.row)), x], name_e (by rfl), ?_⟩
      obtain ⟨ρ2, hr2, er⟩ := row_told_ok (h b hbm)
      refine w_cut (R := fun fl ρ => fl = .nx ∧ ρ = [some (.dat (T (textOf bs))), some (.dat (.lst (bs.map fun b => T b.row))), some (rdS (bs.take j) many), some (.dat (T b.row)), some (.dat (.tup [T cBox, T b.nm, .int b.lo, .int b.hi, .int b.fi]))]) ?_ ?_ (fun fl ρ' h1 h2 => absurd h2.1 h1)
      · refine w_setE (w_dat (w_frz (w_call (ds := [T b.row]) (by simp (disch := first | omega | (simp only [List.length_cons, List.length_nil, List.length_append, List.length_map]; omega) | assumption | decide) only [Int.reduceToNat, Int.reducePow, Nat.reduceAdd, Nat.reducePow, own_0, own_s, var_0, var_s, c_e, bin_e, cmp_e, tst_e, tru_b, tup_e, cons_e, nil_e, lst_e, lim_ok, asD_e, asU_e, asB_e, asL_e, ix_e, lT_e, lD_e, fDat_e, fL_e, bl_e, not_e, and_e, or_e, neg_e, neg_i, call1_e, call_e, if_e, chain_e, sc1_i, sc1_b, add_i, add_t, sub_i, mul_i, mod_i, fdiv_i, shr_i, pow_i, lt_i, le_i, gt_i, ge_i, eq_i, ne_i, ite_or, ite_and, ite_bl, eq_S, ne_S, len_S, ix_S, atI_0, atI_1, atI_2, atI_3, atI_4, atI_5, part_e, partD_i, cut_e, cut_to, cut_from, SX.S_len, isIn_strT, isIn_strL, in_sign, notIn_sign, len_l, len_t, min_i, max_i, er_lstD, itemsL_lstD, itemsL_lst, walk_lst, walk_tup, walk_lstD, walk_str, ix_lstD, l2_e, range1_e, rng1_i, lI_e, fWalk_e, dwalk_l, dwalk_t, dwalk_s, signs_S, htup_e, hcons_e, hnil_e, clr_n, clr_c, isE_e, isEd_r, lcut_e, cutD_to, str_s, ne_bls, ixl_e, ixt_e, ixo_e, S.er, Option.bind_some, Option.bind_none, Option.map_some, Option.map_none, O.opt_some, O.bind_ok, List.length_cons, List.length_nil, List.length_map, List.set_cons_zero, List.set_cons_succ, List.cons_append, List.nil_append, List.map_cons, List.map_nil]) (wp_ok er ⟨by simpa using hr2, _, rfl, by simp, rfl, rfl⟩))))
      rintro ρ ⟨_, rfl⟩
      refine w_if1 (c := true) ?_ (fun _ => ?_) fun h => by cases h
      · rw [show ("box" : Str) = SX.S cBox from rfl]
        have : okS cBox = true := by decide
        simp (disch := first | omega | (simp only [List.length_cons, List.length_nil, List.length_append, List.length_map]; omega) | assumption | decide) only [Int.reduceToNat, Int.reducePow, Nat.reduceAdd, Nat.reducePow, own_0, own_s, var_0, var_s, c_e, bin_e, cmp_e, tst_e, tru_b, tup_e, cons_e, nil_e, lst_e, lim_ok, asD_e, asU_e, asB_e, asL_e, ix_e, lT_e, lD_e, fDat_e, fL_e, bl_e, not_e, and_e, or_e, neg_e, neg_i, call1_e, call_e, if_e, chain_e, sc1_i, sc1_b, add_i, add_t, sub_i, mul_i, mod_i, fdiv_i, shr_i, pow_i, lt_i, le_i, gt_i, ge_i, eq_i, ne_i, ite_or, ite_and, ite_bl, eq_S, ne_S, len_S, ix_S, atI_0, atI_1, atI_2, atI_3, atI_4, atI_5, part_e, partD_i, cut_e, cut_to, cut_from, SX.S_len, isIn_strT, isIn_strL, in_sign, notIn_sign, len_l, len_t, min_i, max_i, er_lstD, itemsL_lstD, itemsL_lst, walk_lst, walk_tup, walk_lstD, walk_str, ix_lstD, l2_e, range1_e, rng1_i, lI_e, fWalk_e, dwalk_l, dwalk_t, dwalk_s, signs_S, htup_e, hcons_e, hnil_e, clr_n, clr_c, isE_e, isEd_r, lcut_e, cutD_to, str_s, ne_bls, ixl_e, ixt_e, ixo_e, S.er, Option.bind_some, Option.bind_none, Option.map_some, Option.map_none, O.opt_some, O.bind_ok, List.length_cons, List.length_nil, List.length_map, List.set_cons_zero, List.set_cons_succ, List.cons_append, List.nil_append, List.map_cons, List.map_nil]
        rfl
      refine w_drop (w_meth (k := "Reading") (ns := rdN) (ds := [T b.nm, .int b.lo, .int b.hi, .int b.fi]) rfl (by decide) (by simp (disch := first | omega | (simp only [List.length_cons, List.length_nil, List.length_append, List.length_map]; omega) | assumption | decide) only [Int.reduceToNat, Int.reducePow, Nat.reduceAdd, Nat.reducePow, own_0, own_s, var_0, var_s, c_e, bin_e, cmp_e, tst_e, tru_b, tup_e, cons_e, nil_e, lst_e, lim_ok, asD_e, asU_e, asB_e, asL_e, ix_e, lT_e, lD_e, fDat_e, fL_e, bl_e, not_e, and_e, or_e, neg_e, neg_i, call1_e, call_e, if_e, chain_e, sc1_i, sc1_b, add_i, add_t, sub_i, mul_i, mod_i, fdiv_i, shr_i, pow_i, lt_i, le_i, gt_i, ge_i, eq_i, ne_i, ite_or, ite_and, ite_bl, eq_S, ne_S, len_S, ix_S, atI_0, atI_1, atI_2, atI_3, atI_4, atI_5, part_e, partD_i, cut_e, cut_to, cut_from, SX.S_len, isIn_strT, isIn_strL, in_sign, notIn_sign, len_l, len_t, min_i, max_i, er_lstD, itemsL_lstD, itemsL_lst, walk_lst, walk_tup, walk_lstD, walk_str, ix_lstD, l2_e, range1_e, rng1_i, lI_e, fWalk_e, dwalk_l, dwalk_t, dwalk_s, signs_S, htup_e, hcons_e, hnil_e, clr_n, clr_c, isE_e, isEd_r, lcut_e, cutD_to, str_s, ne_bls, ixl_e, ixt_e, ixo_e, S.er, Option.bind_some, Option.bind_none, Option.map_some, Option.map_none, O.opt_some, O.bind_ok, List.length_cons, List.length_nil, List.length_map, List.set_cons_zero, List.set_cons_succ, List.cons_append, List.nil_append, List.map_cons, List.map_nil]) ?_)
      refine (box_read_ok (bs.take j) many b (by rw [List.length_take]; omega) hm (h b hbm)).imp ?_ ?_
      · rintro s ρ ⟨e, ρ', rfl, hl'⟩
        refine ⟨_, ρ', rfl, hl', manyM many b, some (.dat (.tup [T cBox, T b.nm, .int b.lo, .int b.hi, .int b.fi])), dueB_none e hm.1, ?_, ?_⟩
        · rw [← hd, ed, et, dueAll, e]
        · rw [et]; rfl
      · rintro k ρ ⟨e, r, ρ', rfl, hl'⟩
        refine ⟨r, ρ', rfl, hl', by simp, ?_⟩
        rw [← hd, ed, dueAll, e]
    · rintro ρ ⟨many, x, hm, hd, rfl⟩
      rw [List.length_map] at *
      rw [List.take_length, List.drop_length, dueAll] at *
      exact ⟨rfl, hd.symm, many, x, rfl⟩
  rintro ρ ⟨_, hd, many, x, rfl⟩
  refine w_if (c := false) ?_ (fun h => by cases h) fun _ => w_nx ?_
  · simp (disch := first | omega | (simp only [List.length_cons, List.length_nil, List.length_append, List.length_map]; omega) | assumption | decide) only [Int.reduceToNat, Int.reducePow, Nat.reduceAdd, Nat.reducePow, own_0, own_s, var_0, var_s, c_e, bin_e, cmp_e, tst_e, tru_b, tup_e, cons_e, nil_e, lst_e, lim_ok, asD_e, asU_e, asB_e, asL_e, ix_e, lT_e, lD_e, fDat_e, fL_e, bl_e, not_e, and_e, or_e, neg_e, neg_i, call1_e, call_e, if_e, chain_e, sc1_i, sc1_b, add_i, add_t, sub_i, mul_i, mod_i, fdiv_i, shr_i, pow_i, lt_i, le_i, gt_i, ge_i, eq_i, ne_i, ite_or, ite_and, ite_bl, eq_S, ne_S, len_S, ix_S, atI_0, atI_1, atI_2, atI_3, atI_4, atI_5, part_e, partD_i, cut_e, cut_to, cut_from, SX.S_len, isIn_strT, isIn_strL, in_sign, notIn_sign, len_l, len_t, min_i, max_i, er_lstD, itemsL_lstD, itemsL_lst, walk_lst, walk_tup, walk_lstD, walk_str, ix_lstD, l2_e, range1_e, rng1_i, lI_e, fWalk_e, dwalk_l, dwalk_t, dwalk_s, signs_S, htup_e, hcons_e, hnil_e, clr_n, clr_c, isE_e, isEd_r, lcut_e, cutD_to, str_s, ne_bls, ixl_e, ixt_e, ixo_e, S.er, Option.bind_some, Option.bind_none, Option.map_some, Option.map_none, O.opt_some, O.bind_ok, List.length_cons, List.length_nil, List.length_map, List.set_cons_zero, List.set_cons_succ, List.cons_append, List.nil_append, List.map_cons, List.map_nil, fld_e, rd_boxes]
    have hp : D.pl 2 (.lst (bs.map Bx.d)) = true := by
      simp only [D.pl, List.all_map, List.all_eq_true]
      intro b hb
      simp only [Function.comp, Bx.d, D.pl, List.all_cons, List.all_nil, strOk_S (h b hb).ok]
      rfl
    have hn : D.nb 2 (.lst (bs.map Bx.d)) = true := by
      simp only [D.nb, List.all_map, List.all_eq_true]
      intro b hb
      simp only [Function.comp, Bx.d, D.nb, List.all_cons, List.all_nil]
      rfl
    have : Decidable (D.lst (bs.map Bx.d) = .lst []) := Classical.propDecidable _
    rw [(eq_nb (x := .lst (bs.map Bx.d)) (y := .lst []) 2 hp rfl hn rfl).1]
    simp [tru, hne]
  refine w_rt (w_dat (w_tup (w_fcons (wp_ok (mvF_ok (k := "Reading") (ns := rdN) (s := lstD (bs.map Bx.d)) rfl rfl er_lstD rfl) ?_))))
  refine w_fcons (w_lD (d := .lst []) ?_ (w_fnil ⟨by simp, by simp, hd, rfl⟩))
  rw [asL_e, comp_all (xs := ([] : List Nat)) (fun _ => .non) (fun _ => .non) (by rfl) (by simp) (fun _ _ x hx => by simp at hx)]
  rfl

/-! k10: what the law draws -/
theorem stir_ok (cell k : Int) (hk : 0 ≤ k) : ∃ n ρ, F_l_law_stir [.dat (.int cell), .dat (.int k)] = .ok (.dat (.int n)) ρ := by
  have w : WP (F_l_law_stir [.dat (.int cell), .dat (.int k)]) (fun s _ => ∃ n, s = .dat (.int n)) E0 := by
    refine w_run ?_
    intro ρ2 hρ; simp only [List.map_cons, List.map_nil, List.replicate_succ, List.replicate_zero, List.cons_append, List.nil_append] at hρ; subst hρ
    refine w_if (c := decide (1000000000000000000 ≤ cell)) (by simp (disch := first | omega | (simp only [List.length_cons, List.length_nil, List.length_append, List.length_map]; omega) | assumption | decide) only [Int.reduceToNat, Int.reducePow, Nat.reduceAdd, Nat.reducePow, own_0, own_s, var_0, var_s, c_e, bin_e, cmp_e, tst_e, tru_b, tup_e, cons_e, nil_e, lst_e, lim_ok, asD_e, asU_e, asB_e, asL_e, ix_e, lT_e, lD_e, fDat_e, fL_e, bl_e, not_e, and_e, or_e, neg_e, neg_i, call1_e, call_e, if_e, chain_e, sc1_i, sc1_b, add_i, add_t, sub_i, mul_i, mod_i, fdiv_i, shr_i, pow_i, lt_i, le_i, gt_i, ge_i, eq_i, ne_i, ite_or, ite_and, ite_bl, eq_S, ne_S, len_S, ix_S, atI_0, atI_1, atI_2, atI_3, atI_4, atI_5, part_e, partD_i, cut_e, cut_to, cut_from, SX.S_len, isIn_strT, isIn_strL, in_sign, notIn_sign, len_l, len_t, min_i, max_i, er_lstD, itemsL_lstD, itemsL_lst, walk_lst, walk_tup, walk_lstD, walk_str, ix_lstD, l2_e, range1_e, rng1_i, lI_e, fWalk_e, dwalk_l, dwalk_t, dwalk_s, signs_S, htup_e, hcons_e, hnil_e, clr_n, clr_c, isE_e, isEd_r, lcut_e, cutD_to, str_s, ne_bls, ixl_e, ixt_e, ixo_e, S.er, Option.bind_some, Option.bind_none, Option.map_some, Option.map_none, O.opt_some, O.bind_ok, List.length_cons, List.length_nil, List.length_map, List.set_cons_zero, List.set_cons_succ, List.cons_append, List.nil_append, List.map_cons, List.map_nil]) (fun _ => ?_) fun _ => ?_
    · exact w_retIS (fun _ => True) (by simp (disch := first | omega | (simp only [List.length_cons, List.length_nil, List.length_append, List.length_map]; omega) | assumption | decide) only [Int.reduceToNat, Int.reducePow, Nat.reduceAdd, Nat.reducePow, own_0, own_s, var_0, var_s, c_e, bin_e, cmp_e, tst_e, tru_b, tup_e, cons_e, nil_e, lst_e, lim_ok, asD_e, asU_e, asB_e, asL_e, ix_e, lT_e, lD_e, fDat_e, fL_e, bl_e, not_e, and_e, or_e, neg_e, neg_i, call1_e, call_e, if_e, chain_e, sc1_i, sc1_b, add_i, add_t, sub_i, mul_i, mod_i, fdiv_i, shr_i, pow_i, lt_i, le_i, gt_i, ge_i, eq_i, ne_i, ite_or, ite_and, ite_bl, eq_S, ne_S, len_S, ix_S, atI_0, atI_1, atI_2, atI_3, atI_4, atI_5, part_e, partD_i, cut_e, cut_to, cut_from, SX.S_len, isIn_strT, isIn_strL, in_sign, notIn_sign, len_l, len_t, min_i, max_i, er_lstD, itemsL_lstD, itemsL_lst, walk_lst, walk_tup, walk_lstD, walk_str, ix_lstD, l2_e, range1_e, rng1_i, lI_e, fWalk_e, dwalk_l, dwalk_t, dwalk_s, signs_S, htup_e, hcons_e, hnil_e, clr_n, clr_c, isE_e, isEd_r, lcut_e, cutD_to, str_s, ne_bls, ixl_e, ixt_e, ixo_e, S.er, Option.bind_some, Option.bind_none, Option.map_some, Option.map_none, O.opt_some, O.bind_ok, List.length_cons, List.length_nil, List.length_map, List.set_cons_zero, List.set_cons_succ, List.cons_append, List.nil_append, List.map_cons, List.map_nil]; exact ⟨_, rfl, trivial⟩) fun n _ => ⟨n, rfl⟩
    · refine w_nx (w_setI (fun n => 0 ≤ n ∧ n < 2147483647) (by simp (disch := first | omega | (simp only [List.length_cons, List.length_nil, List.length_append, List.length_map]; omega) | assumption | decide) only [Int.reduceToNat, Int.reducePow, Nat.reduceAdd, Nat.reducePow, own_0, own_s, var_0, var_s, c_e, bin_e, cmp_e, tst_e, tru_b, tup_e, cons_e, nil_e, lst_e, lim_ok, asD_e, asU_e, asB_e, asL_e, ix_e, lT_e, lD_e, fDat_e, fL_e, bl_e, not_e, and_e, or_e, neg_e, neg_i, call1_e, call_e, if_e, chain_e, sc1_i, sc1_b, add_i, add_t, sub_i, mul_i, mod_i, fdiv_i, shr_i, pow_i, lt_i, le_i, gt_i, ge_i, eq_i, ne_i, ite_or, ite_and, ite_bl, eq_S, ne_S, len_S, ix_S, atI_0, atI_1, atI_2, atI_3, atI_4, atI_5, part_e, partD_i, cut_e, cut_to, cut_from, SX.S_len, isIn_strT, isIn_strL, in_sign, notIn_sign, len_l, len_t, min_i, max_i, er_lstD, itemsL_lstD, itemsL_lst, walk_lst, walk_tup, walk_lstD, walk_str, ix_lstD, l2_e, range1_e, rng1_i, lI_e, fWalk_e, dwalk_l, dwalk_t, dwalk_s, signs_S, htup_e, hcons_e, hnil_e, clr_n, clr_c, isE_e, isEd_r, lcut_e, cutD_to, str_s, ne_bls, ixl_e, ixt_e, ixo_e, S.er, Option.bind_some, Option.bind_none, Option.map_some, Option.map_none, O.opt_some, O.bind_ok, List.length_cons, List.length_nil, List.length_map, List.set_cons_zero, List.set_cons_succ, List.cons_append, List.nil_append, List.map_cons, List.map_nil]; exact ⟨_, rfl, by omega⟩) fun n hn => ?_)
      intro ρ2 hρ; simp only [List.set_cons_zero, List.set_cons_succ] at hρ; subst hρ
      refine w_setI (fun n => True) (by simp (disch := first | omega | (simp only [List.length_cons, List.length_nil, List.length_append, List.length_map]; omega) | assumption | decide) only [Int.reduceToNat, Int.reducePow, Nat.reduceAdd, Nat.reducePow, own_0, own_s, var_0, var_s, c_e, bin_e, cmp_e, tst_e, tru_b, tup_e, cons_e, nil_e, lst_e, lim_ok, asD_e, asU_e, asB_e, asL_e, ix_e, lT_e, lD_e, fDat_e, fL_e, bl_e, not_e, and_e, or_e, neg_e, neg_i, call1_e, call_e, if_e, chain_e, sc1_i, sc1_b, add_i, add_t, sub_i, mul_i, mod_i, fdiv_i, shr_i, pow_i, lt_i, le_i, gt_i, ge_i, eq_i, ne_i, ite_or, ite_and, ite_bl, eq_S, ne_S, len_S, ix_S, atI_0, atI_1, atI_2, atI_3, atI_4, atI_5, part_e, partD_i, cut_e, cut_to, cut_from, SX.S_len, isIn_strT, isIn_strL, in_sign, notIn_sign, len_l, len_t, min_i, max_i, er_lstD, itemsL_lstD, itemsL_lst, walk_lst, walk_tup, walk_lstD, walk_str, ix_lstD, l2_e, range1_e, rng1_i, lI_e, fWalk_e, dwalk_l, dwalk_t, dwalk_s, signs_S, htup_e, hcons_e, hnil_e, clr_n, clr_c, isE_e, isEd_r, lcut_e, cutD_to, str_s, ne_bls, ixl_e, ixt_e, ixo_e, S.er, Option.bind_some, Option.bind_none, Option.map_some, Option.map_none, O.opt_some, O.bind_ok, List.length_cons, List.length_nil, List.length_map, List.set_cons_zero, List.set_cons_succ, List.cons_append, List.nil_append, List.map_cons, List.map_nil]; exact ⟨_, rfl, trivial⟩) fun n hn => ?_
      intro ρ2 hρ; simp only [List.set_cons_zero, List.set_cons_succ] at hρ; subst hρ
      exact w_retI (fun _ => True) (by simp (disch := first | omega | (simp only [List.length_cons, List.length_nil, List.length_append, List.length_map]; omega) | assumption | decide) only [Int.reduceToNat, Int.reducePow, Nat.reduceAdd, Nat.reducePow, own_0, own_s, var_0, var_s, c_e, bin_e, cmp_e, tst_e, tru_b, tup_e, cons_e, nil_e, lst_e, lim_ok, asD_e, asU_e, asB_e, asL_e, ix_e, lT_e, lD_e, fDat_e, fL_e, bl_e, not_e, and_e, or_e, neg_e, neg_i, call1_e, call_e, if_e, chain_e, sc1_i, sc1_b, add_i, add_t, sub_i, mul_i, mod_i, fdiv_i, shr_i, pow_i, lt_i, le_i, gt_i, ge_i, eq_i, ne_i, ite_or, ite_and, ite_bl, eq_S, ne_S, len_S, ix_S, atI_0, atI_1, atI_2, atI_3, atI_4, atI_5, part_e, partD_i, cut_e, cut_to, cut_from, SX.S_len, isIn_strT, isIn_strL, in_sign, notIn_sign, len_l, len_t, min_i, max_i, er_lstD, itemsL_lstD, itemsL_lst, walk_lst, walk_tup, walk_lstD, walk_str, ix_lstD, l2_e, range1_e, rng1_i, lI_e, fWalk_e, dwalk_l, dwalk_t, dwalk_s, signs_S, htup_e, hcons_e, hnil_e, clr_n, clr_c, isE_e, isEd_r, lcut_e, cutD_to, str_s, ne_bls, ixl_e, ixt_e, ixo_e, S.er, Option.bind_some, Option.bind_none, Option.map_some, Option.map_none, O.opt_some, O.bind_ok, List.length_cons, List.length_nil, List.length_map, List.set_cons_zero, List.set_cons_succ, List.cons_append, List.nil_append, List.map_cons, List.map_nil]; exact ⟨_, rfl, trivial⟩) fun n _ => ⟨n, rfl⟩
  obtain ⟨s, ρ, e, n, rfl⟩ := w.ok
  exact ⟨n, ρ, e⟩
theorem box_ok (cell k : Int) (sizes : List Int) (h1 : 0 ≤ k) (h2 : 0 < sizes.length) (h4 : sizes.length < 10) (h3 : ∀ s ∈ sizes, 1 ≤ s ∧ s ≤ 20) : ∃ low high first ρ, F_l_law_box [.dat (.int cell), .dat (.int k), .dat (.lst (sizes.map .int))] = .ok (.dat (.tup [.int low, .int high, .int first])) ρ ∧ (-999 ≤ low ∧ low ≤ 999) ∧ (-999 ≤ high ∧ high ≤ 999) ∧ (-999 ≤ first ∧ first ≤ 999) := by
  have w : WP (F_l_law_box [.dat (.int cell), .dat (.int k), .dat (.lst (sizes.map .int))]) (fun s _ => ∃ low high first, s = .dat (.tup [.int low, .int high, .int first]) ∧ (-999 ≤ low ∧ low ≤ 999) ∧ (-999 ≤ high ∧ high ≤ 999) ∧ (-999 ≤ first ∧ first ≤ 999)) E0 := by
    refine w_run ?_
    intro ρ2 hρ; simp only [List.map_cons, List.map_nil, List.replicate_succ, List.replicate_zero, List.cons_append, List.nil_append] at hρ; subst hρ
    obtain ⟨n, ρ1, e1⟩ := stir_ok cell (10 + k) (by omega)
    obtain ⟨far, ρ2, e2⟩ := stir_ok cell (20 + k) (by omega)
    refine w_setD (d := .int n) (callF_e (ds := [.int cell, .int (10 + k)]) (by simp (disch := first | omega | (simp only [List.length_cons, List.length_nil, List.length_append, List.length_map]; omega) | assumption | decide) only [Int.reduceToNat, Int.reducePow, Nat.reduceAdd, Nat.reducePow, own_0, own_s, var_0, var_s, c_e, bin_e, cmp_e, tst_e, tru_b, tup_e, cons_e, nil_e, lst_e, lim_ok, asD_e, asU_e, asB_e, asL_e, ix_e, lT_e, lD_e, fDat_e, fL_e, bl_e, not_e, and_e, or_e, neg_e, neg_i, call1_e, call_e, if_e, chain_e, sc1_i, sc1_b, add_i, add_t, sub_i, mul_i, mod_i, fdiv_i, shr_i, pow_i, lt_i, le_i, gt_i, ge_i, eq_i, ne_i, ite_or, ite_and, ite_bl, eq_S, ne_S, len_S, ix_S, atI_0, atI_1, atI_2, atI_3, atI_4, atI_5, part_e, partD_i, cut_e, cut_to, cut_from, SX.S_len, isIn_strT, isIn_strL, in_sign, notIn_sign, len_l, len_t, min_i, max_i, er_lstD, itemsL_lstD, itemsL_lst, walk_lst, walk_tup, walk_lstD, walk_str, ix_lstD, l2_e, range1_e, rng1_i, lI_e, fWalk_e, dwalk_l, dwalk_t, dwalk_s, signs_S, htup_e, hcons_e, hnil_e, clr_n, clr_c, isE_e, isEd_r, lcut_e, cutD_to, str_s, ne_bls, ixl_e, ixt_e, ixo_e, S.er, Option.bind_some, Option.bind_none, Option.map_some, Option.map_none, O.opt_some, O.bind_ok, List.length_cons, List.length_nil, List.length_map, List.set_cons_zero, List.set_cons_succ, List.cons_append, List.nil_append, List.map_cons, List.map_nil]) e1) ?_
    intro ρ2 hρ; simp only [List.set_cons_zero, List.set_cons_succ] at hρ; subst hρ
    refine w_setD (d := .int far) (callF_e (ds := [.int cell, .int (20 + k)]) (by simp (disch := first | omega | (simp only [List.length_cons, List.length_nil, List.length_append, List.length_map]; omega) | assumption | decide) only [Int.reduceToNat, Int.reducePow, Nat.reduceAdd, Nat.reducePow, own_0, own_s, var_0, var_s, c_e, bin_e, cmp_e, tst_e, tru_b, tup_e, cons_e, nil_e, lst_e, lim_ok, asD_e, asU_e, asB_e, asL_e, ix_e, lT_e, lD_e, fDat_e, fL_e, bl_e, not_e, and_e, or_e, neg_e, neg_i, call1_e, call_e, if_e, chain_e, sc1_i, sc1_b, add_i, add_t, sub_i, mul_i, mod_i, fdiv_i, shr_i, pow_i, lt_i, le_i, gt_i, ge_i, eq_i, ne_i, ite_or, ite_and, ite_bl, eq_S, ne_S, len_S, ix_S, atI_0, atI_1, atI_2, atI_3, atI_4, atI_5, part_e, partD_i, cut_e, cut_to, cut_from, SX.S_len, isIn_strT, isIn_strL, in_sign, notIn_sign, len_l, len_t, min_i, max_i, er_lstD, itemsL_lstD, itemsL_lst, walk_lst, walk_tup, walk_lstD, walk_str, ix_lstD, l2_e, range1_e, rng1_i, lI_e, fWalk_e, dwalk_l, dwalk_t, dwalk_s, signs_S, htup_e, hcons_e, hnil_e, clr_n, clr_c, isE_e, isEd_r, lcut_e, cutD_to, str_s, ne_bls, ixl_e, ixt_e, ixo_e, S.er, Option.bind_some, Option.bind_none, Option.map_some, Option.map_none, O.opt_some, O.bind_ok, List.length_cons, List.length_nil, List.length_map, List.set_cons_zero, List.set_cons_succ, List.cons_append, List.nil_append, List.map_cons, List.map_nil]) e2) ?_
    intro ρ2 hρ; simp only [List.set_cons_zero, List.set_cons_succ] at hρ; subst hρ
    obtain ⟨sz, hm, e3⟩ := at_ints sizes (a := k % sizes.length) (Int.emod_nonneg _ (by omega)) (Int.emod_lt_of_pos _ (by omega))
    refine w_setI (fun n => 1 ≤ n ∧ n ≤ 20) ⟨sz, by simp (disch := first | omega | (simp only [List.length_cons, List.length_nil, List.length_append, List.length_map]; omega) | assumption | decide) only [Int.reduceToNat, Int.reducePow, Nat.reduceAdd, Nat.reducePow, own_0, own_s, var_0, var_s, c_e, bin_e, cmp_e, tst_e, tru_b, tup_e, cons_e, nil_e, lst_e, lim_ok, asD_e, asU_e, asB_e, asL_e, ix_e, lT_e, lD_e, fDat_e, fL_e, bl_e, not_e, and_e, or_e, neg_e, neg_i, call1_e, call_e, if_e, chain_e, sc1_i, sc1_b, add_i, add_t, sub_i, mul_i, mod_i, fdiv_i, shr_i, pow_i, lt_i, le_i, gt_i, ge_i, eq_i, ne_i, ite_or, ite_and, ite_bl, eq_S, ne_S, len_S, ix_S, atI_0, atI_1, atI_2, atI_3, atI_4, atI_5, part_e, partD_i, cut_e, cut_to, cut_from, SX.S_len, isIn_strT, isIn_strL, in_sign, notIn_sign, len_l, len_t, min_i, max_i, er_lstD, itemsL_lstD, itemsL_lst, walk_lst, walk_tup, walk_lstD, walk_str, ix_lstD, l2_e, range1_e, rng1_i, lI_e, fWalk_e, dwalk_l, dwalk_t, dwalk_s, signs_S, htup_e, hcons_e, hnil_e, clr_n, clr_c, isE_e, isEd_r, lcut_e, cutD_to, str_s, ne_bls, ixl_e, ixt_e, ixo_e, S.er, Option.bind_some, Option.bind_none, Option.map_some, Option.map_none, O.opt_some, O.bind_ok, List.length_cons, List.length_nil, List.length_map, List.set_cons_zero, List.set_cons_succ, List.cons_append, List.nil_append, List.map_cons, List.map_nil, e3], h3 _ hm⟩ fun sz hs => ?_
    intro ρ2 hρ; simp only [List.set_cons_zero, List.set_cons_succ] at hρ; subst hρ
    clear hm e3
    refine w_cut (R := fun fl ρ => fl = .nx ∧ ∃ sz, 0 ≤ sz ∧ sz ≤ 500 ∧ ρ = [some (.dat (.int cell)), some (.dat (.int k)), some (.dat (.lst (sizes.map .int))), some (.dat (.int n)), some (.dat (.int far)), some (.dat (.int sz)), none, none, none]) ?_ ?_ (fun fl ρ' h1 h2 => absurd h2.1 h1)
    · refine w_if1 (c := decide (n % 8 = 0)) (by simp (disch := first | omega | (simp only [List.length_cons, List.length_nil, List.length_append, List.length_map]; omega) | assumption | decide) only [Int.reduceToNat, Int.reducePow, Nat.reduceAdd, Nat.reducePow, own_0, own_s, var_0, var_s, c_e, bin_e, cmp_e, tst_e, tru_b, tup_e, cons_e, nil_e, lst_e, lim_ok, asD_e, asU_e, asB_e, asL_e, ix_e, lT_e, lD_e, fDat_e, fL_e, bl_e, not_e, and_e, or_e, neg_e, neg_i, call1_e, call_e, if_e, chain_e, sc1_i, sc1_b, add_i, add_t, sub_i, mul_i, mod_i, fdiv_i, shr_i, pow_i, lt_i, le_i, gt_i, ge_i, eq_i, ne_i, ite_or, ite_and, ite_bl, eq_S, ne_S, len_S, ix_S, atI_0, atI_1, atI_2, atI_3, atI_4, atI_5, part_e, partD_i, cut_e, cut_to, cut_from, SX.S_len, isIn_strT, isIn_strL, in_sign, notIn_sign, len_l, len_t, min_i, max_i, er_lstD, itemsL_lstD, itemsL_lst, walk_lst, walk_tup, walk_lstD, walk_str, ix_lstD, l2_e, range1_e, rng1_i, lI_e, fWalk_e, dwalk_l, dwalk_t, dwalk_s, signs_S, htup_e, hcons_e, hnil_e, clr_n, clr_c, isE_e, isEd_r, lcut_e, cutD_to, str_s, ne_bls, ixl_e, ixt_e, ixo_e, S.er, Option.bind_some, Option.bind_none, Option.map_some, Option.map_none, O.opt_some, O.bind_ok, List.length_cons, List.length_nil, List.length_map, List.set_cons_zero, List.set_cons_succ, List.cons_append, List.nil_append, List.map_cons, List.map_nil]) (fun _ => ?_) fun _ => ⟨rfl, _, by omega, by omega, rfl⟩
      obtain ⟨v, hv, e3⟩ := at_ints [0, 1, 20, 21, 22, 500] (a := far % 6) (by omega) (by simp only [List.length_cons, List.length_nil]; omega)
      simp only [List.map_cons, List.map_nil] at e3
      refine w_setI1 (fun n => 0 ≤ n ∧ n ≤ 500) ⟨v, by simp (disch := first | omega | (simp only [List.length_cons, List.length_nil, List.length_append, List.length_map]; omega) | assumption | decide) only [Int.reduceToNat, Int.reducePow, Nat.reduceAdd, Nat.reducePow, own_0, own_s, var_0, var_s, c_e, bin_e, cmp_e, tst_e, tru_b, tup_e, cons_e, nil_e, lst_e, lim_ok, asD_e, asU_e, asB_e, asL_e, ix_e, lT_e, lD_e, fDat_e, fL_e, bl_e, not_e, and_e, or_e, neg_e, neg_i, call1_e, call_e, if_e, chain_e, sc1_i, sc1_b, add_i, add_t, sub_i, mul_i, mod_i, fdiv_i, shr_i, pow_i, lt_i, le_i, gt_i, ge_i, eq_i, ne_i, ite_or, ite_and, ite_bl, eq_S, ne_S, len_S, ix_S, atI_0, atI_1, atI_2, atI_3, atI_4, atI_5, part_e, partD_i, cut_e, cut_to, cut_from, SX.S_len, isIn_strT, isIn_strL, in_sign, notIn_sign, len_l, len_t, min_i, max_i, er_lstD, itemsL_lstD, itemsL_lst, walk_lst, walk_tup, walk_lstD, walk_str, ix_lstD, l2_e, range1_e, rng1_i, lI_e, fWalk_e, dwalk_l, dwalk_t, dwalk_s, signs_S, htup_e, hcons_e, hnil_e, clr_n, clr_c, isE_e, isEd_r, lcut_e, cutD_to, str_s, ne_bls, ixl_e, ixt_e, ixo_e, S.er, Option.bind_some, Option.bind_none, Option.map_some, Option.map_none, O.opt_some, O.bind_ok, List.length_cons, List.length_nil, List.length_map, List.set_cons_zero, List.set_cons_succ, List.cons_append, List.nil_append, List.map_cons, List.map_nil, e3], by simp at hv; omega⟩ fun v hv => ?_
      intro ρ2 hρ; simp only [List.set_cons_zero, List.set_cons_succ] at hρ; subst hρ
      exact ⟨rfl, v, by omega, by omega, rfl⟩
    clear hs sz
    rintro ρ ⟨_, sz, s0, s1, rfl⟩
    have em : 0 < 200 - sz % 100 := by omega
    obtain ⟨v, hv, e3⟩ := at_ints [-99, 100 - sz, -100, 0, -5, far / 8 % (200 - sz % 100) - 99, 99, -999] (a := n / 8 % 16 % 8) (by omega) (by simp only [List.length_cons, List.length_nil]; omega)
    simp only [List.map_cons, List.map_nil] at e3
    have hr : 0 ≤ far / 8 % (200 - sz % 100) := Int.emod_nonneg _ (by omega)
    have hr2 : far / 8 % (200 - sz % 100) < 200 - sz % 100 := Int.emod_lt_of_pos _ (by omega)
    have hr3 : 0 ≤ sz % 100 := by omega
    generalize hq : far / 8 % (200 - sz % 100) = q at *
    refine w_setI (fun n => -999 ≤ n ∧ n ≤ 200) ⟨v, by simp (disch := first | omega | (simp only [List.length_cons, List.length_nil, List.length_append, List.length_map]; omega) | assumption | decide) only [Int.reduceToNat, Int.reducePow, Nat.reduceAdd, Nat.reducePow, own_0, own_s, var_0, var_s, c_e, bin_e, cmp_e, tst_e, tru_b, tup_e, cons_e, nil_e, lst_e, lim_ok, asD_e, asU_e, asB_e, asL_e, ix_e, lT_e, lD_e, fDat_e, fL_e, bl_e, not_e, and_e, or_e, neg_e, neg_i, call1_e, call_e, if_e, chain_e, sc1_i, sc1_b, add_i, add_t, sub_i, mul_i, mod_i, fdiv_i, shr_i, pow_i, lt_i, le_i, gt_i, ge_i, eq_i, ne_i, ite_or, ite_and, ite_bl, eq_S, ne_S, len_S, ix_S, atI_0, atI_1, atI_2, atI_3, atI_4, atI_5, part_e, partD_i, cut_e, cut_to, cut_from, SX.S_len, isIn_strT, isIn_strL, in_sign, notIn_sign, len_l, len_t, min_i, max_i, er_lstD, itemsL_lstD, itemsL_lst, walk_lst, walk_tup, walk_lstD, walk_str, ix_lstD, l2_e, range1_e, rng1_i, lI_e, fWalk_e, dwalk_l, dwalk_t, dwalk_s, signs_S, htup_e, hcons_e, hnil_e, clr_n, clr_c, isE_e, isEd_r, lcut_e, cutD_to, str_s, ne_bls, ixl_e, ixt_e, ixo_e, S.er, Option.bind_some, Option.bind_none, Option.map_some, Option.map_none, O.opt_some, O.bind_ok, List.length_cons, List.length_nil, List.length_map, List.set_cons_zero, List.set_cons_succ, List.cons_append, List.nil_append, List.map_cons, List.map_nil, e3, hq], by simp at hv; omega⟩ fun v hv => ?_
    intro ρ2 hρ; simp only [List.set_cons_zero, List.set_cons_succ] at hρ; subst hρ
    clear e3 hr hr2 hr3 em
    refine w_cut (R := fun fl ρ => fl = .nx ∧ ∃ lw, -999 ≤ lw ∧ lw ≤ 200 ∧ ρ = [some (.dat (.int cell)), some (.dat (.int k)), some (.dat (.lst (sizes.map .int))), some (.dat (.int n)), some (.dat (.int far)), some (.dat (.int sz)), some (.dat (.int lw)), none, none]) ?_ ?_ (fun fl ρ' h1 h2 => absurd h2.1 h1)
    · refine w_if1 (c := decide (7 < n / 8 % 16)) (by simp (disch := first | omega | (simp only [List.length_cons, List.length_nil, List.length_append, List.length_map]; omega) | assumption | decide) only [Int.reduceToNat, Int.reducePow, Nat.reduceAdd, Nat.reducePow, own_0, own_s, var_0, var_s, c_e, bin_e, cmp_e, tst_e, tru_b, tup_e, cons_e, nil_e, lst_e, lim_ok, asD_e, asU_e, asB_e, asL_e, ix_e, lT_e, lD_e, fDat_e, fL_e, bl_e, not_e, and_e, or_e, neg_e, neg_i, call1_e, call_e, if_e, chain_e, sc1_i, sc1_b, add_i, add_t, sub_i, mul_i, mod_i, fdiv_i, shr_i, pow_i, lt_i, le_i, gt_i, ge_i, eq_i, ne_i, ite_or, ite_and, ite_bl, eq_S, ne_S, len_S, ix_S, atI_0, atI_1, atI_2, atI_3, atI_4, atI_5, part_e, partD_i, cut_e, cut_to, cut_from, SX.S_len, isIn_strT, isIn_strL, in_sign, notIn_sign, len_l, len_t, min_i, max_i, er_lstD, itemsL_lstD, itemsL_lst, walk_lst, walk_tup, walk_lstD, walk_str, ix_lstD, l2_e, range1_e, rng1_i, lI_e, fWalk_e, dwalk_l, dwalk_t, dwalk_s, signs_S, htup_e, hcons_e, hnil_e, clr_n, clr_c, isE_e, isEd_r, lcut_e, cutD_to, str_s, ne_bls, ixl_e, ixt_e, ixo_e, S.er, Option.bind_some, Option.bind_none, Option.map_some, Option.map_none, O.opt_some, O.bind_ok, List.length_cons, List.length_nil, List.length_map, List.set_cons_zero, List.set_cons_succ, List.cons_append, List.nil_append, List.map_cons, List.map_nil]) (fun _ => ?_) fun _ => ⟨rfl, _, by omega, by omega, rfl⟩
      obtain ⟨u, hu, e3⟩ := at_ints [-99, 100 - min sz 199, 0, far / 8 % 180 - 99] (a := n / 8 % 4) (by omega) (by simp only [List.length_cons, List.length_nil]; omega)
      simp only [List.map_cons, List.map_nil] at e3
      refine w_setI1 (fun n => -999 ≤ n ∧ n ≤ 200) ⟨u, by simp (disch := first | omega | (simp only [List.length_cons, List.length_nil, List.length_append, List.length_map]; omega) | assumption | decide) only [Int.reduceToNat, Int.reducePow, Nat.reduceAdd, Nat.reducePow, own_0, own_s, var_0, var_s, c_e, bin_e, cmp_e, tst_e, tru_b, tup_e, cons_e, nil_e, lst_e, lim_ok, asD_e, asU_e, asB_e, asL_e, ix_e, lT_e, lD_e, fDat_e, fL_e, bl_e, not_e, and_e, or_e, neg_e, neg_i, call1_e, call_e, if_e, chain_e, sc1_i, sc1_b, add_i, add_t, sub_i, mul_i, mod_i, fdiv_i, shr_i, pow_i, lt_i, le_i, gt_i, ge_i, eq_i, ne_i, ite_or, ite_and, ite_bl, eq_S, ne_S, len_S, ix_S, atI_0, atI_1, atI_2, atI_3, atI_4, atI_5, part_e, partD_i, cut_e, cut_to, cut_from, SX.S_len, isIn_strT, isIn_strL, in_sign, notIn_sign, len_l, len_t, min_i, max_i, er_lstD, itemsL_lstD, itemsL_lst, walk_lst, walk_tup, walk_lstD, walk_str, ix_lstD, l2_e, range1_e, rng1_i, lI_e, fWalk_e, dwalk_l, dwalk_t, dwalk_s, signs_S, htup_e, hcons_e, hnil_e, clr_n, clr_c, isE_e, isEd_r, lcut_e, cutD_to, str_s, ne_bls, ixl_e, ixt_e, ixo_e, S.er, Option.bind_some, Option.bind_none, Option.map_some, Option.map_none, O.opt_some, O.bind_ok, List.length_cons, List.length_nil, List.length_map, List.set_cons_zero, List.set_cons_succ, List.cons_append, List.nil_append, List.map_cons, List.map_nil, e3], by simp at hu; omega⟩ fun u hu => ?_
      intro ρ2 hρ; simp only [List.set_cons_zero, List.set_cons_succ] at hρ; subst hρ
      exact ⟨rfl, u, by omega, by omega, rfl⟩
    clear hv v
    rintro ρ ⟨_, lw, l0, l1, rfl⟩
    refine w_setI (fun hi => True) (by simp (disch := first | omega | (simp only [List.length_cons, List.length_nil, List.length_append, List.length_map]; omega) | assumption | decide) only [Int.reduceToNat, Int.reducePow, Nat.reduceAdd, Nat.reducePow, own_0, own_s, var_0, var_s, c_e, bin_e, cmp_e, tst_e, tru_b, tup_e, cons_e, nil_e, lst_e, lim_ok, asD_e, asU_e, asB_e, asL_e, ix_e, lT_e, lD_e, fDat_e, fL_e, bl_e, not_e, and_e, or_e, neg_e, neg_i, call1_e, call_e, if_e, chain_e, sc1_i, sc1_b, add_i, add_t, sub_i, mul_i, mod_i, fdiv_i, shr_i, pow_i, lt_i, le_i, gt_i, ge_i, eq_i, ne_i, ite_or, ite_and, ite_bl, eq_S, ne_S, len_S, ix_S, atI_0, atI_1, atI_2, atI_3, atI_4, atI_5, part_e, partD_i, cut_e, cut_to, cut_from, SX.S_len, isIn_strT, isIn_strL, in_sign, notIn_sign, len_l, len_t, min_i, max_i, er_lstD, itemsL_lstD, itemsL_lst, walk_lst, walk_tup, walk_lstD, walk_str, ix_lstD, l2_e, range1_e, rng1_i, lI_e, fWalk_e, dwalk_l, dwalk_t, dwalk_s, signs_S, htup_e, hcons_e, hnil_e, clr_n, clr_c, isE_e, isEd_r, lcut_e, cutD_to, str_s, ne_bls, ixl_e, ixt_e, ixo_e, S.er, Option.bind_some, Option.bind_none, Option.map_some, Option.map_none, O.opt_some, O.bind_ok, List.length_cons, List.length_nil, List.length_map, List.set_cons_zero, List.set_cons_succ, List.cons_append, List.nil_append, List.map_cons, List.map_nil]; exact ⟨_, rfl, trivial⟩) fun hi _ => ?_
    intro ρ2 hρ; simp only [List.set_cons_zero, List.set_cons_succ] at hρ; subst hρ
    obtain ⟨u, hu, e3⟩ := at_ints [lw, hi, lw + far / 2000 % max 1 sz, lw, hi, lw] (a := n / 128 % 6) (by omega) (by simp only [List.length_cons, List.length_nil]; omega)
    simp only [List.map_cons, List.map_nil] at e3
    refine w_setI (fun n => True) ⟨u, by simp (disch := first | omega | (simp only [List.length_cons, List.length_nil, List.length_append, List.length_map]; omega) | assumption | decide) only [Int.reduceToNat, Int.reducePow, Nat.reduceAdd, Nat.reducePow, own_0, own_s, var_0, var_s, c_e, bin_e, cmp_e, tst_e, tru_b, tup_e, cons_e, nil_e, lst_e, lim_ok, asD_e, asU_e, asB_e, asL_e, ix_e, lT_e, lD_e, fDat_e, fL_e, bl_e, not_e, and_e, or_e, neg_e, neg_i, call1_e, call_e, if_e, chain_e, sc1_i, sc1_b, add_i, add_t, sub_i, mul_i, mod_i, fdiv_i, shr_i, pow_i, lt_i, le_i, gt_i, ge_i, eq_i, ne_i, ite_or, ite_and, ite_bl, eq_S, ne_S, len_S, ix_S, atI_0, atI_1, atI_2, atI_3, atI_4, atI_5, part_e, partD_i, cut_e, cut_to, cut_from, SX.S_len, isIn_strT, isIn_strL, in_sign, notIn_sign, len_l, len_t, min_i, max_i, er_lstD, itemsL_lstD, itemsL_lst, walk_lst, walk_tup, walk_lstD, walk_str, ix_lstD, l2_e, range1_e, rng1_i, lI_e, fWalk_e, dwalk_l, dwalk_t, dwalk_s, signs_S, htup_e, hcons_e, hnil_e, clr_n, clr_c, isE_e, isEd_r, lcut_e, cutD_to, str_s, ne_bls, ixl_e, ixt_e, ixo_e, S.er, Option.bind_some, Option.bind_none, Option.map_some, Option.map_none, O.opt_some, O.bind_ok, List.length_cons, List.length_nil, List.length_map, List.set_cons_zero, List.set_cons_succ, List.cons_append, List.nil_append, List.map_cons, List.map_nil, e3], trivial⟩ fun ft _ => ?_
    intro ρ2 hρ; simp only [List.set_cons_zero, List.set_cons_succ] at hρ; subst hρ
    clear e3
    refine w_cut (R := fun fl ρ => fl = .nx ∧ ∃ ft, ρ = [some (.dat (.int cell)), some (.dat (.int k)), some (.dat (.lst (sizes.map .int))), some (.dat (.int n)), some (.dat (.int far)), some (.dat (.int sz)), some (.dat (.int lw)), some (.dat (.int hi)), some (.dat (.int ft))]) ?_ ?_ (fun fl ρ' h1 h2 => absurd h2.1 h1)
    · refine w_if1 (c := decide (n / 768 % 16 = 3)) (by simp (disch := first | omega | (simp only [List.length_cons, List.length_nil, List.length_append, List.length_map]; omega) | assumption | decide) only [Int.reduceToNat, Int.reducePow, Nat.reduceAdd, Nat.reducePow, own_0, own_s, var_0, var_s, c_e, bin_e, cmp_e, tst_e, tru_b, tup_e, cons_e, nil_e, lst_e, lim_ok, asD_e, asU_e, asB_e, asL_e, ix_e, lT_e, lD_e, fDat_e, fL_e, bl_e, not_e, and_e, or_e, neg_e, neg_i, call1_e, call_e, if_e, chain_e, sc1_i, sc1_b, add_i, add_t, sub_i, mul_i, mod_i, fdiv_i, shr_i, pow_i, lt_i, le_i, gt_i, ge_i, eq_i, ne_i, ite_or, ite_and, ite_bl, eq_S, ne_S, len_S, ix_S, atI_0, atI_1, atI_2, atI_3, atI_4, atI_5, part_e, partD_i, cut_e, cut_to, cut_from, SX.S_len, isIn_strT, isIn_strL, in_sign, notIn_sign, len_l, len_t, min_i, max_i, er_lstD, itemsL_lstD, itemsL_lst, walk_lst, walk_tup, walk_lstD, walk_str, ix_lstD, l2_e, range1_e, rng1_i, lI_e, fWalk_e, dwalk_l, dwalk_t, dwalk_s, signs_S, htup_e, hcons_e, hnil_e, clr_n, clr_c, isE_e, isEd_r, lcut_e, cutD_to, str_s, ne_bls, ixl_e, ixt_e, ixo_e, S.er, Option.bind_some, Option.bind_none, Option.map_some, Option.map_none, O.opt_some, O.bind_ok, List.length_cons, List.length_nil, List.length_map, List.set_cons_zero, List.set_cons_succ, List.cons_append, List.nil_append, List.map_cons, List.map_nil]) (fun _ => ?_) fun _ => ⟨rfl, _, rfl⟩
      obtain ⟨u, hu, e3⟩ := at_ints [lw - 1, hi + 1] (a := n / 12288 % 2) (by omega) (by simp only [List.length_cons, List.length_nil]; omega)
      simp only [List.map_cons, List.map_nil] at e3
      refine w_setI1 (fun n => True) ⟨u, by simp (disch := first | omega | (simp only [List.length_cons, List.length_nil, List.length_append, List.length_map]; omega) | assumption | decide) only [Int.reduceToNat, Int.reducePow, Nat.reduceAdd, Nat.reducePow, own_0, own_s, var_0, var_s, c_e, bin_e, cmp_e, tst_e, tru_b, tup_e, cons_e, nil_e, lst_e, lim_ok, asD_e, asU_e, asB_e, asL_e, ix_e, lT_e, lD_e, fDat_e, fL_e, bl_e, not_e, and_e, or_e, neg_e, neg_i, call1_e, call_e, if_e, chain_e, sc1_i, sc1_b, add_i, add_t, sub_i, mul_i, mod_i, fdiv_i, shr_i, pow_i, lt_i, le_i, gt_i, ge_i, eq_i, ne_i, ite_or, ite_and, ite_bl, eq_S, ne_S, len_S, ix_S, atI_0, atI_1, atI_2, atI_3, atI_4, atI_5, part_e, partD_i, cut_e, cut_to, cut_from, SX.S_len, isIn_strT, isIn_strL, in_sign, notIn_sign, len_l, len_t, min_i, max_i, er_lstD, itemsL_lstD, itemsL_lst, walk_lst, walk_tup, walk_lstD, walk_str, ix_lstD, l2_e, range1_e, rng1_i, lI_e, fWalk_e, dwalk_l, dwalk_t, dwalk_s, signs_S, htup_e, hcons_e, hnil_e, clr_n, clr_c, isE_e, isEd_r, lcut_e, cutD_to, str_s, ne_bls, ixl_e, ixt_e, ixo_e, S.er, Option.bind_some, Option.bind_none, Option.map_some, Option.map_none, O.opt_some, O.bind_ok, List.length_cons, List.length_nil, List.length_map, List.set_cons_zero, List.set_cons_succ, List.cons_append, List.nil_append, List.map_cons, List.map_nil, e3], trivial⟩ fun u hu => ?_
      intro ρ2 hρ; simp only [List.set_cons_zero, List.set_cons_succ] at hρ; subst hρ
      exact ⟨rfl, u, rfl⟩
    rintro ρ ⟨_, ft, rfl⟩
    refine w_retD (d := .tup [.int lw, .int (max (-999) (min hi 999)), .int (max (-999) (min ft 999))]) (by simp (disch := first | omega | (simp only [List.length_cons, List.length_nil, List.length_append, List.length_map]; omega) | assumption | decide) only [Int.reduceToNat, Int.reducePow, Nat.reduceAdd, Nat.reducePow, own_0, own_s, var_0, var_s, c_e, bin_e, cmp_e, tst_e, tru_b, tup_e, cons_e, nil_e, lst_e, lim_ok, asD_e, asU_e, asB_e, asL_e, ix_e, lT_e, lD_e, fDat_e, fL_e, bl_e, not_e, and_e, or_e, neg_e, neg_i, call1_e, call_e, if_e, chain_e, sc1_i, sc1_b, add_i, add_t, sub_i, mul_i, mod_i, fdiv_i, shr_i, pow_i, lt_i, le_i, gt_i, ge_i, eq_i, ne_i, ite_or, ite_and, ite_bl, eq_S, ne_S, len_S, ix_S, atI_0, atI_1, atI_2, atI_3, atI_4, atI_5, part_e, partD_i, cut_e, cut_to, cut_from, SX.S_len, isIn_strT, isIn_strL, in_sign, notIn_sign, len_l, len_t, min_i, max_i, er_lstD, itemsL_lstD, itemsL_lst, walk_lst, walk_tup, walk_lstD, walk_str, ix_lstD, l2_e, range1_e, rng1_i, lI_e, fWalk_e, dwalk_l, dwalk_t, dwalk_s, signs_S, htup_e, hcons_e, hnil_e, clr_n, clr_c, isE_e, isEd_r, lcut_e, cutD_to, str_s, ne_bls, ixl_e, ixt_e, ixo_e, S.er, Option.bind_some, Option.bind_none, Option.map_some, Option.map_none, O.opt_some, O.bind_ok, List.length_cons, List.length_nil, List.length_map, List.set_cons_zero, List.set_cons_succ, List.cons_append, List.nil_append, List.map_cons, List.map_nil]) ⟨_, _, _, rfl, by omega, by omega, by omega⟩
  obtain ⟨s, ρ, e, low, high, first, rfl, h⟩ := w.ok
  exact ⟨_, _, _, ρ, e, h⟩

def tbl1 : List (List Int) := [[20, 20, 1, 1], [20, 10, 2, 1], [5, 4, 5, 4], [4, 10, 10, 1], [20, 20, 2], [17, 12, 2], [7, 19, 3]]
def tbl2 : List (List Int) := [[20, 5, 4], [2, 10, 20, 1], [1, 1, 1, 1, 1], [3, 3, 3, 3], [4, 5, 4, 6], [2], [13, 15, 2]]
def tbl3 : List (List Int) := [[20, 4, 5, 2], [9, 9, 5]]
abbrev LL (t : List (List Int)) : D := .lst (t.map fun z => .lst (z.map .int))
def base : List (List Nat) := [[97], [97, 98], [98], [97, 98, 99], [98, 98]]
theorem base_ok : ∀ w ∈ base, isName w = true ∧ w.length ≤ 8 ∧ ∀ c ∈ w, 97 ≤ c ∧ c ≤ 122 := by decide +kernel
theorem tbl_ok : ∀ z ∈ tbl1 ++ tbl2 ++ tbl3, 0 < z.length ∧ z.length < 10 ∧ ∀ s ∈ z, 1 ≤ s ∧ s ≤ 20 := by decide +kernel
theorem boxes_ok (cell : Int) : ∃ bs ρ, F_l_law_boxes [.dat (.int cell)] = .ok (lstD (bs.map Bx.d)) ρ ∧ bs ≠ [] ∧ bs.length ≤ 10 ∧ ∀ b ∈ bs, b.Ok := by
  have w : WP (F_l_law_boxes [.dat (.int cell)]) (fun s _ => ∃ bs : List Bx, s = lstD (bs.map Bx.d) ∧ bs ≠ [] ∧ bs.length ≤ 10 ∧ ∀ b ∈ bs, b.Ok) E0 := by
    refine w_run ?_
    intro ρ2 hρ; simp only [List.map_cons, List.map_nil, List.replicate_succ, List.replicate_zero, List.cons_append, List.nil_append] at hρ; subst hρ
    obtain ⟨n, ρ1, e1⟩ := stir_ok cell 0 (by omega)
    refine w_setD (d := .int n) (callF_e (ds := [.int cell, .int 0]) (by simp (disch := first | omega | (simp only [List.length_cons, List.length_nil, List.length_append, List.length_map]; omega) | assumption | decide) only [Int.reduceToNat, Int.reducePow, Nat.reduceAdd, Nat.reducePow, own_0, own_s, var_0, var_s, c_e, bin_e, cmp_e, tst_e, tru_b, tup_e, cons_e, nil_e, lst_e, lim_ok, asD_e, asU_e, asB_e, asL_e, ix_e, lT_e, lD_e, fDat_e, fL_e, bl_e, not_e, and_e, or_e, neg_e, neg_i, call1_e, call_e, if_e, chain_e, sc1_i, sc1_b, add_i, add_t, sub_i, mul_i, mod_i, fdiv_i, shr_i, pow_i, lt_i, le_i, gt_i, ge_i, eq_i, ne_i, ite_or, ite_and, ite_bl, eq_S, ne_S, len_S, ix_S, atI_0, atI_1, atI_2, atI_3, atI_4, atI_5, part_e, partD_i, cut_e, cut_to, cut_from, SX.S_len, isIn_strT, isIn_strL, in_sign, notIn_sign, len_l, len_t, min_i, max_i, er_lstD, itemsL_lstD, itemsL_lst, walk_lst, walk_tup, walk_lstD, walk_str, ix_lstD, l2_e, range1_e, rng1_i, lI_e, fWalk_e, dwalk_l, dwalk_t, dwalk_s, signs_S, htup_e, hcons_e, hnil_e, clr_n, clr_c, isE_e, isEd_r, lcut_e, cutD_to, str_s, ne_bls, ixl_e, ixt_e, ixo_e, S.er, Option.bind_some, Option.bind_none, Option.map_some, Option.map_none, O.opt_some, O.bind_ok, List.length_cons, List.length_nil, List.length_map, List.set_cons_zero, List.set_cons_succ, List.cons_append, List.nil_append, List.map_cons, List.map_nil]) e1) ?_
    intro ρ2 hρ; simp only [List.set_cons_zero, List.set_cons_succ] at hρ; subst hρ
    refine w_setD (d := LL tbl1) (by simp (disch := first | omega | (simp only [List.length_cons, List.length_nil, List.length_append, List.length_map]; omega) | assumption | decide) only [Int.reduceToNat, Int.reducePow, Nat.reduceAdd, Nat.reducePow, own_0, own_s, var_0, var_s, c_e, bin_e, cmp_e, tst_e, tru_b, tup_e, cons_e, nil_e, lst_e, lim_ok, asD_e, asU_e, asB_e, asL_e, ix_e, lT_e, lD_e, fDat_e, fL_e, bl_e, not_e, and_e, or_e, neg_e, neg_i, call1_e, call_e, if_e, chain_e, sc1_i, sc1_b, add_i, add_t, sub_i, mul_i, mod_i, fdiv_i, shr_i, pow_i, lt_i, le_i, gt_i, ge_i, eq_i, ne_i, ite_or, ite_and, ite_bl, eq_S, ne_S, len_S, ix_S, atI_0, atI_1, atI_2, atI_3, atI_4, atI_5, part_e, partD_i, cut_e, cut_to, cut_from, SX.S_len, isIn_strT, isIn_strL, in_sign, notIn_sign, len_l, len_t, min_i, max_i, er_lstD, itemsL_lstD, itemsL_lst, walk_lst, walk_tup, walk_lstD, walk_str, ix_lstD, l2_e, range1_e, rng1_i, lI_e, fWalk_e, dwalk_l, dwalk_t, dwalk_s, signs_S, htup_e, hcons_e, hnil_e, clr_n, clr_c, isE_e, isEd_r, lcut_e, cutD_to, str_s, ne_bls, ixl_e, ixt_e, ixo_e, S.er, Option.bind_some, Option.bind_none, Option.map_some, Option.map_none, O.opt_some, O.bind_ok, List.length_cons, List.length_nil, List.length_map, List.set_cons_zero, List.set_cons_succ, List.cons_append, List.nil_append, List.map_cons, List.map_nil]; rfl) ?_
    intro ρ2 hρ; simp only [List.set_cons_zero, List.set_cons_succ] at hρ; subst hρ
    refine w_setD (d := LL (tbl1 ++ tbl2)) ?_ ?_
    · simp (disch := first | omega | (simp only [List.length_cons, List.length_nil, List.length_append, List.length_map]; omega) | assumption | decide) only [Int.reduceToNat, Int.reducePow, Nat.reduceAdd, Nat.reducePow, own_0, own_s, var_0, var_s, c_e, bin_e, cmp_e, tst_e, tru_b, tup_e, cons_e, nil_e, lst_e, lim_ok, asD_e, asU_e, asB_e, asL_e, ix_e, lT_e, lD_e, fDat_e, fL_e, bl_e, not_e, and_e, or_e, neg_e, neg_i, call1_e, call_e, if_e, chain_e, sc1_i, sc1_b, add_i, add_t, sub_i, mul_i, mod_i, fdiv_i, shr_i, pow_i, lt_i, le_i, gt_i, ge_i, eq_i, ne_i, ite_or, ite_and, ite_bl, eq_S, ne_S, len_S, ix_S, atI_0, atI_1, atI_2, atI_3, atI_4, atI_5, part_e, partD_i, cut_e, cut_to, cut_from, SX.S_len, isIn_strT, isIn_strL, in_sign, notIn_sign, len_l, len_t, min_i, max_i, er_lstD, itemsL_lstD, itemsL_lst, walk_lst, walk_tup, walk_lstD, walk_str, ix_lstD, l2_e, range1_e, rng1_i, lI_e, fWalk_e, dwalk_l, dwalk_t, dwalk_s, signs_S, htup_e, hcons_e, hnil_e, clr_n, clr_c, isE_e, isEd_r, lcut_e, cutD_to, str_s, ne_bls, ixl_e, ixt_e, ixo_e, S.er, Option.bind_some, Option.bind_none, Option.map_some, Option.map_none, O.opt_some, O.bind_ok, List.length_cons, List.length_nil, List.length_map, List.set_cons_zero, List.set_cons_succ, List.cons_append, List.nil_append, List.map_cons, List.map_nil]
      rfl
    intro ρ2 hρ; simp only [List.set_cons_zero, List.set_cons_succ] at hρ; subst hρ
    refine w_setD (d := LL (tbl1 ++ tbl2 ++ tbl3)) ?_ ?_
    · simp (disch := first | omega | (simp only [List.length_cons, List.length_nil, List.length_append, List.length_map]; omega) | assumption | decide) only [Int.reduceToNat, Int.reducePow, Nat.reduceAdd, Nat.reducePow, own_0, own_s, var_0, var_s, c_e, bin_e, cmp_e, tst_e, tru_b, tup_e, cons_e, nil_e, lst_e, lim_ok, asD_e, asU_e, asB_e, asL_e, ix_e, lT_e, lD_e, fDat_e, fL_e, bl_e, not_e, and_e, or_e, neg_e, neg_i, call1_e, call_e, if_e, chain_e, sc1_i, sc1_b, add_i, add_t, sub_i, mul_i, mod_i, fdiv_i, shr_i, pow_i, lt_i, le_i, gt_i, ge_i, eq_i, ne_i, ite_or, ite_and, ite_bl, eq_S, ne_S, len_S, ix_S, atI_0, atI_1, atI_2, atI_3, atI_4, atI_5, part_e, partD_i, cut_e, cut_to, cut_from, SX.S_len, isIn_strT, isIn_strL, in_sign, notIn_sign, len_l, len_t, min_i, max_i, er_lstD, itemsL_lstD, itemsL_lst, walk_lst, walk_tup, walk_lstD, walk_str, ix_lstD, l2_e, range1_e, rng1_i, lI_e, fWalk_e, dwalk_l, dwalk_t, dwalk_s, signs_S, htup_e, hcons_e, hnil_e, clr_n, clr_c, isE_e, isEd_r, lcut_e, cutD_to, str_s, ne_bls, ixl_e, ixt_e, ixo_e, S.er, Option.bind_some, Option.bind_none, Option.map_some, Option.map_none, O.opt_some, O.bind_ok, List.length_cons, List.length_nil, List.length_map, List.set_cons_zero, List.set_cons_succ, List.cons_append, List.nil_append, List.map_cons, List.map_nil]
      rfl
    intro ρ2 hρ; simp only [List.set_cons_zero, List.set_cons_succ] at hρ; subst hρ
    obtain ⟨d, hd, e2⟩ := atI_mem (xs := (tbl1 ++ tbl2 ++ tbl3).map fun z => D.lst (z.map .int)) (a := n % 16) (by omega) (by rw [List.length_map, show (tbl1 ++ tbl2 ++ tbl3).length = 16 from rfl]; omega)
    obtain ⟨sizes, hs, rfl⟩ := List.mem_map.mp hd
    refine w_setD (d := .lst (sizes.map .int)) (by simp (disch := first | omega | (simp only [List.length_cons, List.length_nil, List.length_append, List.length_map]; omega) | assumption | decide) only [Int.reduceToNat, Int.reducePow, Nat.reduceAdd, Nat.reducePow, own_0, own_s, var_0, var_s, c_e, bin_e, cmp_e, tst_e, tru_b, tup_e, cons_e, nil_e, lst_e, lim_ok, asD_e, asU_e, asB_e, asL_e, ix_e, lT_e, lD_e, fDat_e, fL_e, bl_e, not_e, and_e, or_e, neg_e, neg_i, call1_e, call_e, if_e, chain_e, sc1_i, sc1_b, add_i, add_t, sub_i, mul_i, mod_i, fdiv_i, shr_i, pow_i, lt_i, le_i, gt_i, ge_i, eq_i, ne_i, ite_or, ite_and, ite_bl, eq_S, ne_S, len_S, ix_S, atI_0, atI_1, atI_2, atI_3, atI_4, atI_5, part_e, partD_i, cut_e, cut_to, cut_from, SX.S_len, isIn_strT, isIn_strL, in_sign, notIn_sign, len_l, len_t, min_i, max_i, er_lstD, itemsL_lstD, itemsL_lst, walk_lst, walk_tup, walk_lstD, walk_str, ix_lstD, l2_e, range1_e, rng1_i, lI_e, fWalk_e, dwalk_l, dwalk_t, dwalk_s, signs_S, htup_e, hcons_e, hnil_e, clr_n, clr_c, isE_e, isEd_r, lcut_e, cutD_to, str_s, ne_bls, ixl_e, ixt_e, ixo_e, S.er, Option.bind_some, Option.bind_none, Option.map_some, Option.map_none, O.opt_some, O.bind_ok, List.length_cons, List.length_nil, List.length_map, List.set_cons_zero, List.set_cons_succ, List.cons_append, List.nil_append, List.map_cons, List.map_nil, e2]) ?_
    intro ρ2 hρ; simp only [List.set_cons_zero, List.set_cons_succ] at hρ; subst hρ
    refine w_set (s := lstD (base.map T)) (ρ1 := [some (.dat (.int cell)), some (.dat (.int n)), some (.dat (LL (tbl1 ++ tbl2 ++ tbl3))), some (.dat (.lst (sizes.map .int))), none, none, none]) (by simp (disch := first | omega | (simp only [List.length_cons, List.length_nil, List.length_append, List.length_map]; omega) | assumption | decide) only [Int.reduceToNat, Int.reducePow, Nat.reduceAdd, Nat.reducePow, own_0, own_s, var_0, var_s, c_e, bin_e, cmp_e, tst_e, tru_b, tup_e, cons_e, nil_e, lst_e, lim_ok, asD_e, asU_e, asB_e, asL_e, ix_e, lT_e, lD_e, fDat_e, fL_e, bl_e, not_e, and_e, or_e, neg_e, neg_i, call1_e, call_e, if_e, chain_e, sc1_i, sc1_b, add_i, add_t, sub_i, mul_i, mod_i, fdiv_i, shr_i, pow_i, lt_i, le_i, gt_i, ge_i, eq_i, ne_i, ite_or, ite_and, ite_bl, eq_S, ne_S, len_S, ix_S, atI_0, atI_1, atI_2, atI_3, atI_4, atI_5, part_e, partD_i, cut_e, cut_to, cut_from, SX.S_len, isIn_strT, isIn_strL, in_sign, notIn_sign, len_l, len_t, min_i, max_i, er_lstD, itemsL_lstD, itemsL_lst, walk_lst, walk_tup, walk_lstD, walk_str, ix_lstD, l2_e, range1_e, rng1_i, lI_e, fWalk_e, dwalk_l, dwalk_t, dwalk_s, signs_S, htup_e, hcons_e, hnil_e, clr_n, clr_c, isE_e, isEd_r, lcut_e, cutD_to, str_s, ne_bls, ixl_e, ixt_e, ixo_e, S.er, Option.bind_some, Option.bind_none, Option.map_some, Option.map_none, O.opt_some, O.bind_ok, List.length_cons, List.length_nil, List.length_map, List.set_cons_zero, List.set_cons_succ, List.cons_append, List.nil_append, List.map_cons, List.map_nil]; rfl) ?_
    intro ρ2 hρ; simp only [List.set_cons_zero, List.set_cons_succ] at hρ; subst hρ
    refine w_cut (R := fun fl ρ => fl = .nx ∧ ∃ nms : List (List Nat), nms.length = 5 ∧ (∀ w ∈ nms, w ∈ base) ∧ ρ = [some (.dat (.int cell)), some (.dat (.int n)), some (.dat (LL (tbl1 ++ tbl2 ++ tbl3))), some (.dat (.lst (sizes.map .int))), some (lstD (nms.map T)), none, none]) ?_ ?_ (fun fl ρ' h1 h2 => absurd h2.1 h1)
    · refine w_if1 (c := decide (n / 16 % 4 = 1)) (by simp (disch := first | omega | (simp only [List.length_cons, List.length_nil, List.length_append, List.length_map]; omega) | assumption | decide) only [Int.reduceToNat, Int.reducePow, Nat.reduceAdd, Nat.reducePow, own_0, own_s, var_0, var_s, c_e, bin_e, cmp_e, tst_e, tru_b, tup_e, cons_e, nil_e, lst_e, lim_ok, asD_e, asU_e, asB_e, asL_e, ix_e, lT_e, lD_e, fDat_e, fL_e, bl_e, not_e, and_e, or_e, neg_e, neg_i, call1_e, call_e, if_e, chain_e, sc1_i, sc1_b, add_i, add_t, sub_i, mul_i, mod_i, fdiv_i, shr_i, pow_i, lt_i, le_i, gt_i, ge_i, eq_i, ne_i, ite_or, ite_and, ite_bl, eq_S, ne_S, len_S, ix_S, atI_0, atI_1, atI_2, atI_3, atI_4, atI_5, part_e, partD_i, cut_e, cut_to, cut_from, SX.S_len, isIn_strT, isIn_strL, in_sign, notIn_sign, len_l, len_t, min_i, max_i, er_lstD, itemsL_lstD, itemsL_lst, walk_lst, walk_tup, walk_lstD, walk_str, ix_lstD, l2_e, range1_e, rng1_i, lI_e, fWalk_e, dwalk_l, dwalk_t, dwalk_s, signs_S, htup_e, hcons_e, hnil_e, clr_n, clr_c, isE_e, isEd_r, lcut_e, cutD_to, str_s, ne_bls, ixl_e, ixt_e, ixo_e, S.er, Option.bind_some, Option.bind_none, Option.map_some, Option.map_none, O.opt_some, O.bind_ok, List.length_cons, List.length_nil, List.length_map, List.set_cons_zero, List.set_cons_succ, List.cons_append, List.nil_append, List.map_cons, List.map_nil]) (fun _ => ?_) fun _ => ⟨rfl, base, rfl, fun _ h => h, rfl⟩
      obtain ⟨d, hd, e3⟩ := atI_mem (xs := base.map T) (a := n / 320 % 5) (by omega) (by rw [show (base.map T).length = 5 from rfl]; omega)
      obtain ⟨nm, hnm, rfl⟩ := List.mem_map.mp hd
      refine wp_ok (a := .nx) (ixP_ok (d := T nm) (xs := base.map T) (a := n / 64 % 5) (by simp (disch := first | omega | (simp only [List.length_cons, List.length_nil, List.length_append, List.length_map]; omega) | assumption | decide) only [Int.reduceToNat, Int.reducePow, Nat.reduceAdd, Nat.reducePow, own_0, own_s, var_0, var_s, c_e, bin_e, cmp_e, tst_e, tru_b, tup_e, cons_e, nil_e, lst_e, lim_ok, asD_e, asU_e, asB_e, asL_e, ix_e, lT_e, lD_e, fDat_e, fL_e, bl_e, not_e, and_e, or_e, neg_e, neg_i, call1_e, call_e, if_e, chain_e, sc1_i, sc1_b, add_i, add_t, sub_i, mul_i, mod_i, fdiv_i, shr_i, pow_i, lt_i, le_i, gt_i, ge_i, eq_i, ne_i, ite_or, ite_and, ite_bl, eq_S, ne_S, len_S, ix_S, atI_0, atI_1, atI_2, atI_3, atI_4, atI_5, part_e, partD_i, cut_e, cut_to, cut_from, SX.S_len, isIn_strT, isIn_strL, in_sign, notIn_sign, len_l, len_t, min_i, max_i, er_lstD, itemsL_lstD, itemsL_lst, walk_lst, walk_tup, walk_lstD, walk_str, ix_lstD, l2_e, range1_e, rng1_i, lI_e, fWalk_e, dwalk_l, dwalk_t, dwalk_s, signs_S, htup_e, hcons_e, hnil_e, clr_n, clr_c, isE_e, isEd_r, lcut_e, cutD_to, str_s, ne_bls, ixl_e, ixt_e, ixo_e, S.er, Option.bind_some, Option.bind_none, Option.map_some, Option.map_none, O.opt_some, O.bind_ok, List.length_cons, List.length_nil, List.length_map, List.set_cons_zero, List.set_cons_succ, List.cons_append, List.nil_append, List.map_cons, List.map_nil, e3]) rfl (by simp (disch := first | omega | (simp only [List.length_cons, List.length_nil, List.length_append, List.length_map]; omega) | assumption | decide) only [Int.reduceToNat, Int.reducePow, Nat.reduceAdd, Nat.reducePow, own_0, own_s, var_0, var_s, c_e, bin_e, cmp_e, tst_e, tru_b, tup_e, cons_e, nil_e, lst_e, lim_ok, asD_e, asU_e, asB_e, asL_e, ix_e, lT_e, lD_e, fDat_e, fL_e, bl_e, not_e, and_e, or_e, neg_e, neg_i, call1_e, call_e, if_e, chain_e, sc1_i, sc1_b, add_i, add_t, sub_i, mul_i, mod_i, fdiv_i, shr_i, pow_i, lt_i, le_i, gt_i, ge_i, eq_i, ne_i, ite_or, ite_and, ite_bl, eq_S, ne_S, len_S, ix_S, atI_0, atI_1, atI_2, atI_3, atI_4, atI_5, part_e, partD_i, cut_e, cut_to, cut_from, SX.S_len, isIn_strT, isIn_strL, in_sign, notIn_sign, len_l, len_t, min_i, max_i, er_lstD, itemsL_lstD, itemsL_lst, walk_lst, walk_tup, walk_lstD, walk_str, ix_lstD, l2_e, range1_e, rng1_i, lI_e, fWalk_e, dwalk_l, dwalk_t, dwalk_s, signs_S, htup_e, hcons_e, hnil_e, clr_n, clr_c, isE_e, isEd_r, lcut_e, cutD_to, str_s, ne_bls, ixl_e, ixt_e, ixo_e, S.er, Option.bind_some, Option.bind_none, Option.map_some, Option.map_none, O.opt_some, O.bind_ok, List.length_cons, List.length_nil, List.length_map, List.set_cons_zero, List.set_cons_succ, List.cons_append, List.nil_append, List.map_cons, List.map_nil]) (by omega) (by rw [show (base.map T).length = 5 from rfl]; omega)) ?_
      refine ⟨rfl, base.set (n / 64 % 5).toNat nm, by rw [List.length_set]; rfl, fun w hw => ?_, by rw [List.map_set]; rfl⟩
      rcases List.mem_or_eq_of_mem_set hw with h | h
      · exact h
      · rw [h]; exact hnm
    rintro ρ ⟨_, nms, hn5, hnb, rfl⟩
    refine w_set (s := lstD []) (by simp (disch := first | omega | (simp only [List.length_cons, List.length_nil, List.length_append, List.length_map]; omega) | assumption | decide) only [Int.reduceToNat, Int.reducePow, Nat.reduceAdd, Nat.reducePow, own_0, own_s, var_0, var_s, c_e, bin_e, cmp_e, tst_e, tru_b, tup_e, cons_e, nil_e, lst_e, lim_ok, asD_e, asU_e, asB_e, asL_e, ix_e, lT_e, lD_e, fDat_e, fL_e, bl_e, not_e, and_e, or_e, neg_e, neg_i, call1_e, call_e, if_e, chain_e, sc1_i, sc1_b, add_i, add_t, sub_i, mul_i, mod_i, fdiv_i, shr_i, pow_i, lt_i, le_i, gt_i, ge_i, eq_i, ne_i, ite_or, ite_and, ite_bl, eq_S, ne_S, len_S, ix_S, atI_0, atI_1, atI_2, atI_3, atI_4, atI_5, part_e, partD_i, cut_e, cut_to, cut_from, SX.S_len, isIn_strT, isIn_strL, in_sign, notIn_sign, len_l, len_t, min_i, max_i, er_lstD, itemsL_lstD, itemsL_lst, walk_lst, walk_tup, walk_lstD, walk_str, ix_lstD, l2_e, range1_e, rng1_i, lI_e, fWalk_e, dwalk_l, dwalk_t, dwalk_s, signs_S, htup_e, hcons_e, hnil_e, clr_n, clr_c, isE_e, isEd_r, lcut_e, cutD_to, str_s, ne_bls, ixl_e, ixt_e, ixo_e, S.er, Option.bind_some, Option.bind_none, Option.map_some, Option.map_none, O.opt_some, O.bind_ok, List.length_cons, List.length_nil, List.length_map, List.set_cons_zero, List.set_cons_succ, List.cons_append, List.nil_append, List.map_cons, List.map_nil]; rfl) ?_
    intro ρ2 hρ; simp only [List.set_cons_zero, List.set_cons_succ] at hρ; subst hρ
    have hk : 0 ≤ n / 1600 % 5 ∧ n / 1600 % 5 < 5 := by omega
    refine w_cut (R := fun fl ρ => fl = .nx ∧ ∃ bs : List Bx, bs ≠ [] ∧ bs.length ≤ 10 ∧ (∀ b ∈ bs, b.Ok) ∧ ρ = [some (.dat (.int cell)), some (.dat (.int n)), some (.dat (LL (tbl1 ++ tbl2 ++ tbl3))), some (.dat (.lst (sizes.map .int))), some (lstD (nms.map T)), some (lstD (bs.map Bx.d)), none]) ?_ ?_ (fun fl ρ' h1 h2 => absurd h2.1 h1)
    · refine w_forE (ds := rangeD 0 (1 + n / 1600 % 5).toNat) (fun j ρ => ∃ bs : List Bx, bs.length = j ∧ (∀ b ∈ bs, b.Ok) ∧ ρ = [some (.dat (.int cell)), some (.dat (.int n)), some (.dat (LL (tbl1 ++ tbl2 ++ tbl3))), some (.dat (.lst (sizes.map .int))), some (lstD (nms.map T)), some (lstD (bs.map Bx.d)), none]) (by simp (disch := first | omega | (simp only [List.length_cons, List.length_nil, List.length_append, List.length_map]; omega) | assumption | decide) only [Int.reduceToNat, Int.reducePow, Nat.reduceAdd, Nat.reducePow, own_0, own_s, var_0, var_s, c_e, bin_e, cmp_e, tst_e, tru_b, tup_e, cons_e, nil_e, lst_e, lim_ok, asD_e, asU_e, asB_e, asL_e, ix_e, lT_e, lD_e, fDat_e, fL_e, bl_e, not_e, and_e, or_e, neg_e, neg_i, call1_e, call_e, if_e, chain_e, sc1_i, sc1_b, add_i, add_t, sub_i, mul_i, mod_i, fdiv_i, shr_i, pow_i, lt_i, le_i, gt_i, ge_i, eq_i, ne_i, ite_or, ite_and, ite_bl, eq_S, ne_S, len_S, ix_S, atI_0, atI_1, atI_2, atI_3, atI_4, atI_5, part_e, partD_i, cut_e, cut_to, cut_from, SX.S_len, isIn_strT, isIn_strL, in_sign, notIn_sign, len_l, len_t, min_i, max_i, er_lstD, itemsL_lstD, itemsL_lst, walk_lst, walk_tup, walk_lstD, walk_str, ix_lstD, l2_e, range1_e, rng1_i, lI_e, fWalk_e, dwalk_l, dwalk_t, dwalk_s, signs_S, htup_e, hcons_e, hnil_e, clr_n, clr_c, isE_e, isEd_r, lcut_e, cutD_to, str_s, ne_bls, ixl_e, ixt_e, ixo_e, S.er, Option.bind_some, Option.bind_none, Option.map_some, Option.map_none, O.opt_some, O.bind_ok, List.length_cons, List.length_nil, List.length_map, List.set_cons_zero, List.set_cons_succ, List.cons_append, List.nil_append, List.map_cons, List.map_nil]; rfl) (fun ρ1 h1 => ⟨[], rfl, by simp, by rw [← h1]; rfl⟩) ?_ ?_
      · rintro j d ρ hj ⟨bs, hbl, hbo, rfl⟩
        obtain ⟨rfl, hjn⟩ := rangeD_at hj
        have hj5 : j < 5 := by omega
        obtain ⟨t1, t2, t3⟩ := tbl_ok sizes hs
        obtain ⟨low, high, first, ρ3, e4, b1, b2, b3⟩ := box_ok cell (0 + (j : Int)) sizes (by omega) t1 t2 t3
        obtain ⟨d, hd, e5⟩ := atI_mem (xs := nms.map T) (a := 0 + (j : Int)) (by omega) (by rw [List.length_map, hn5]; omega)
        obtain ⟨nm, hnm, rfl⟩ := List.mem_map.mp hd
        refine ⟨[some (.dat (.int cell)), some (.dat (.int n)), some (.dat (LL (tbl1 ++ tbl2 ++ tbl3))), some (.dat (.lst (sizes.map .int))), some (lstD (nms.map T)), some (lstD (bs.map Bx.d)), some (.dat (.int (0 + (j : Int))))], name_e (by rfl), ?_⟩
        refine wp_ok (a := .nx) (app_ok (d := Bx.d ⟨nm, low, high, first⟩) (xs := bs.map Bx.d) ?_ rfl (by rw [List.length_map]; omega)) ?_
        · simp only [bin_e]
          rw [callF_e (ds := [.int cell, .int (0 + (j : Int)), .lst (sizes.map .int)]) (by simp (disch := first | omega | (simp only [List.length_cons, List.length_nil, List.length_append, List.length_map]; omega) | assumption | decide) only [Int.reduceToNat, Int.reducePow, Nat.reduceAdd, Nat.reducePow, own_0, own_s, var_0, var_s, c_e, bin_e, cmp_e, tst_e, tru_b, tup_e, cons_e, nil_e, lst_e, lim_ok, asD_e, asU_e, asB_e, asL_e, ix_e, lT_e, lD_e, fDat_e, fL_e, bl_e, not_e, and_e, or_e, neg_e, neg_i, call1_e, call_e, if_e, chain_e, sc1_i, sc1_b, add_i, add_t, sub_i, mul_i, mod_i, fdiv_i, shr_i, pow_i, lt_i, le_i, gt_i, ge_i, eq_i, ne_i, ite_or, ite_and, ite_bl, eq_S, ne_S, len_S, ix_S, atI_0, atI_1, atI_2, atI_3, atI_4, atI_5, part_e, partD_i, cut_e, cut_to, cut_from, SX.S_len, isIn_strT, isIn_strL, in_sign, notIn_sign, len_l, len_t, min_i, max_i, er_lstD, itemsL_lstD, itemsL_lst, walk_lst, walk_tup, walk_lstD, walk_str, ix_lstD, l2_e, range1_e, rng1_i, lI_e, fWalk_e, dwalk_l, dwalk_t, dwalk_s, signs_S, htup_e, hcons_e, hnil_e, clr_n, clr_c, isE_e, isEd_r, lcut_e, cutD_to, str_s, ne_bls, ixl_e, ixt_e, ixo_e, S.er, Option.bind_some, Option.bind_none, Option.map_some, Option.map_none, O.opt_some, O.bind_ok, List.length_cons, List.length_nil, List.length_map, List.set_cons_zero, List.set_cons_succ, List.cons_append, List.nil_append, List.map_cons, List.map_nil]) e4]
          simp (disch := first | omega | (simp only [List.length_cons, List.length_nil, List.length_append, List.length_map]; omega) | assumption | decide) only [Int.reduceToNat, Int.reducePow, Nat.reduceAdd, Nat.reducePow, own_0, own_s, var_0, var_s, c_e, bin_e, cmp_e, tst_e, tru_b, tup_e, cons_e, nil_e, lst_e, lim_ok, asD_e, asU_e, asB_e, asL_e, ix_e, lT_e, lD_e, fDat_e, fL_e, bl_e, not_e, and_e, or_e, neg_e, neg_i, call1_e, call_e, if_e, chain_e, sc1_i, sc1_b, add_i, add_t, sub_i, mul_i, mod_i, fdiv_i, shr_i, pow_i, lt_i, le_i, gt_i, ge_i, eq_i, ne_i, ite_or, ite_and, ite_bl, eq_S, ne_S, len_S, ix_S, atI_0, atI_1, atI_2, atI_3, atI_4, atI_5, part_e, partD_i, cut_e, cut_to, cut_from, SX.S_len, isIn_strT, isIn_strL, in_sign, notIn_sign, len_l, len_t, min_i, max_i, er_lstD, itemsL_lstD, itemsL_lst, walk_lst, walk_tup, walk_lstD, walk_str, ix_lstD, l2_e, range1_e, rng1_i, lI_e, fWalk_e, dwalk_l, dwalk_t, dwalk_s, signs_S, htup_e, hcons_e, hnil_e, clr_n, clr_c, isE_e, isEd_r, lcut_e, cutD_to, str_s, ne_bls, ixl_e, ixt_e, ixo_e, S.er, Option.bind_some, Option.bind_none, Option.map_some, Option.map_none, O.opt_some, O.bind_ok, List.length_cons, List.length_nil, List.length_map, List.set_cons_zero, List.set_cons_succ, List.cons_append, List.nil_append, List.map_cons, List.map_nil, e5]
          rfl
        · obtain ⟨p1, p2, p3⟩ := base_ok nm (hnb nm hnm)
          refine ⟨bs ++ [⟨nm, low, high, first⟩], by simp [hbl], fun b hb => ?_, by rw [List.map_append]; rfl⟩
          rcases List.mem_append.mp hb with h | h
          · exact hbo b h
          · rw [List.mem_singleton.mp h]
            exact ⟨p1, p2, p3, b1, b2, b3⟩
      · rintro ρ ⟨bs, hbl, hbo, rfl⟩
        rw [rangeD_len] at hbl
        exact ⟨rfl, bs, by intro e; rw [e] at hbl; simp at hbl; omega, by omega, hbo, rfl⟩
    rintro ρ ⟨_, bs, h1, h2, h3, rfl⟩
    exact w_ret (s := lstD (bs.map Bx.d)) (by rfl) ⟨bs, rfl, h1, h2, h3⟩
  obtain ⟨s, ρ, e, bs, rfl, h⟩ := w.ok
  exact ⟨bs, ρ, e, h⟩

def errI : Option Str → Int
  | none => -1
  | some k => if k = "NoMeasure" then 3 else if k = "Twice" then 4 else if k = "Full" then 5 else 6
theorem due_ok (bs : List Bx) (hl : bs.length ≤ 10) (h : ∀ b ∈ bs, b.Ok) : ∃ ρ, F_l_law_due [.dat (.lst (bs.map Bx.d))] = .ok (.dat (.int (errI (dueAll [] 1 bs)))) ρ := by
  have w : WP (F_l_law_due [.dat (.lst (bs.map Bx.d))]) (fun s _ => s = .dat (.int (errI (dueAll [] 1 bs)))) E0 := by
    refine w_run ?_
    intro ρ2 hρ; simp only [List.map_cons, List.map_nil, List.replicate_succ, List.replicate_zero, List.cons_append, List.nil_append] at hρ; subst hρ
    refine w_setD (d := .int 1) (by simp (disch := first | omega | (simp only [List.length_cons, List.length_nil, List.length_append, List.length_map]; omega) | assumption | decide) only [Int.reduceToNat, Int.reducePow, Nat.reduceAdd, Nat.reducePow, own_0, own_s, var_0, var_s, c_e, bin_e, cmp_e, tst_e, tru_b, tup_e, cons_e, nil_e, lst_e, lim_ok, asD_e, asU_e, asB_e, asL_e, ix_e, lT_e, lD_e, fDat_e, fL_e, bl_e, not_e, and_e, or_e, neg_e, neg_i, call1_e, call_e, if_e, chain_e, sc1_i, sc1_b, add_i, add_t, sub_i, mul_i, mod_i, fdiv_i, shr_i, pow_i, lt_i, le_i, gt_i, ge_i, eq_i, ne_i, ite_or, ite_and, ite_bl, eq_S, ne_S, len_S, ix_S, atI_0, atI_1, atI_2, atI_3, atI_4, atI_5, part_e, partD_i, cut_e, cut_to, cut_from, SX.S_len, isIn_strT, isIn_strL, in_sign, notIn_sign, len_l, len_t, min_i, max_i, er_lstD, itemsL_lstD, itemsL_lst, walk_lst, walk_tup, walk_lstD, walk_str, ix_lstD, l2_e, range1_e, rng1_i, lI_e, fWalk_e, dwalk_l, dwalk_t, dwalk_s, signs_S, htup_e, hcons_e, hnil_e, clr_n, clr_c, isE_e, isEd_r, lcut_e, cutD_to, str_s, ne_bls, ixl_e, ixt_e, ixo_e, S.er, Option.bind_some, Option.bind_none, Option.map_some, Option.map_none, O.opt_some, O.bind_ok, List.length_cons, List.length_nil, List.length_map, List.set_cons_zero, List.set_cons_succ, List.cons_append, List.nil_append, List.map_cons, List.map_nil]) ?_
    intro ρ2 hρ; simp only [List.set_cons_zero, List.set_cons_succ] at hρ; subst hρ
    refine w_set (s := lstD []) (by simp (disch := first | omega | (simp only [List.length_cons, List.length_nil, List.length_append, List.length_map]; omega) | assumption | decide) only [Int.reduceToNat, Int.reducePow, Nat.reduceAdd, Nat.reducePow, own_0, own_s, var_0, var_s, c_e, bin_e, cmp_e, tst_e, tru_b, tup_e, cons_e, nil_e, lst_e, lim_ok, asD_e, asU_e, asB_e, asL_e, ix_e, lT_e, lD_e, fDat_e, fL_e, bl_e, not_e, and_e, or_e, neg_e, neg_i, call1_e, call_e, if_e, chain_e, sc1_i, sc1_b, add_i, add_t, sub_i, mul_i, mod_i, fdiv_i, shr_i, pow_i, lt_i, le_i, gt_i, ge_i, eq_i, ne_i, ite_or, ite_and, ite_bl, eq_S, ne_S, len_S, ix_S, atI_0, atI_1, atI_2, atI_3, atI_4, atI_5, part_e, partD_i, cut_e, cut_to, cut_from, SX.S_len, isIn_strT, isIn_strL, in_sign, notIn_sign, len_l, len_t, min_i, max_i, er_lstD, itemsL_lstD, itemsL_lst, walk_lst, walk_tup, walk_lstD, walk_str, ix_lstD, l2_e, range1_e, rng1_i, lI_e, fWalk_e, dwalk_l, dwalk_t, dwalk_s, signs_S, htup_e, hcons_e, hnil_e, clr_n, clr_c, isE_e, isEd_r, lcut_e, cutD_to, str_s, ne_bls, ixl_e, ixt_e, ixo_e, S.er, Option.bind_some, Option.bind_none, Option.map_some, Option.map_none, O.opt_some, O.bind_ok, List.length_cons, List.length_nil, List.length_map, List.set_cons_zero, List.set_cons_succ, List.cons_append, List.nil_append, List.map_cons, List.map_nil]; rfl) ?_
    intro ρ2 hρ; simp only [List.set_cons_zero, List.set_cons_succ] at hρ; subst hρ
    refine w_cut (R := fun fl ρ => match fl with
      | .rt s => s = .dat (.int (errI (dueAll [] 1 bs)))
      | .nx => dueAll [] 1 bs = none ∧ ∃ many x, ρ = [some (.dat (.lst (bs.map Bx.d))), some (.dat (.int many)), x, none, none, none, none]
      | _ => False) ?_ ?_ (fun fl ρ' h1 h2 => by
        cases fl with
        | rt s => exact h2
        | nx => exact absurd rfl h1
        | bk => exact h2
        | ct => exact h2)
    · refine w_forE (ds := bs.map Bx.d) (fun j ρ => ∃ many, (1 ≤ many ∧ many ≤ 400) ∧ dueAll (bs.take j) many (bs.drop j) = dueAll [] 1 bs ∧ ρ = [some (.dat (.lst (bs.map Bx.d))), some (.dat (.int many)), some (lstD ((bs.take j).map fun b => T b.nm)), none, none, none, none]) (by simp (disch := first | omega | (simp only [List.length_cons, List.length_nil, List.length_append, List.length_map]; omega) | assumption | decide) only [Int.reduceToNat, Int.reducePow, Nat.reduceAdd, Nat.reducePow, own_0, own_s, var_0, var_s, c_e, bin_e, cmp_e, tst_e, tru_b, tup_e, cons_e, nil_e, lst_e, lim_ok, asD_e, asU_e, asB_e, asL_e, ix_e, lT_e, lD_e, fDat_e, fL_e, bl_e, not_e, and_e, or_e, neg_e, neg_i, call1_e, call_e, if_e, chain_e, sc1_i, sc1_b, add_i, add_t, sub_i, mul_i, mod_i, fdiv_i, shr_i, pow_i, lt_i, le_i, gt_i, ge_i, eq_i, ne_i, ite_or, ite_and, ite_bl, eq_S, ne_S, len_S, ix_S, atI_0, atI_1, atI_2, atI_3, atI_4, atI_5, part_e, partD_i, cut_e, cut_to, cut_from, SX.S_len, isIn_strT, isIn_strL, in_sign, notIn_sign, len_l, len_t, min_i, max_i, er_lstD, itemsL_lstD, itemsL_lst, walk_lst, walk_tup, walk_lstD, walk_str, ix_lstD, l2_e, range1_e, rng1_i, lI_e, fWalk_e, dwalk_l, dwalk_t, dwalk_s, signs_S, htup_e, hcons_e, hnil_e, clr_n, clr_c, isE_e, isEd_r, lcut_e, cutD_to, str_s, ne_bls, ixl_e, ixt_e, ixo_e, S.er, Option.bind_some, Option.bind_none, Option.map_some, Option.map_none, O.opt_some, O.bind_ok, List.length_cons, List.length_nil, List.length_map, List.set_cons_zero, List.set_cons_succ, List.cons_append, List.nil_append, List.map_cons, List.map_nil]; rfl) (fun ρ1 h1 => ⟨1, by decide, by simp, by rw [← h1]; rfl⟩) ?_ ?_
      · rintro j d ρ hj ⟨many, hm, hd, rfl⟩
        obtain ⟨b, hb, rfl⟩ := map_at hj
        have hbm : b ∈ bs := List.mem_of_getElem? hb
        have hjl : j < bs.length := (List.getElem?_eq_some_iff.mp hb).1
        have ed : bs.drop j = b :: bs.drop (j + 1) := by
          rw [List.drop_eq_getElem_cons hjl]
          congr 1
          exact (List.getElem?_eq_some_iff.mp hb).2
        have et : bs.take (j + 1) = bs.take j ++ [b] := by
          rw [List.take_add_one, hb]; rfl
        have htl : (bs.take j).length ≤ 10 := by rw [List.length_take]; omega
        rw [ed, dueAll] at hd
        refine ⟨[some (.dat (.lst (bs.map Bx.d))), some (.dat (.int many)), some (lstD ((bs.take j).map fun b => T b.nm)), some (.dat (T b.nm)), some (.dat (.int b.lo)), some (.dat (.int b.hi)), some (.dat (.int b.fi))], by rfl, ?_⟩
        generalize htk : bs.take j = tk at *
        refine w_if (c := badM b) (by simp (disch := first | omega | (simp only [List.length_cons, List.length_nil, List.length_append, List.length_map]; omega) | assumption | decide) only [Int.reduceToNat, Int.reducePow, Nat.reduceAdd, Nat.reducePow, own_0, own_s, var_0, var_s, c_e, bin_e, cmp_e, tst_e, tru_b, tup_e, cons_e, nil_e, lst_e, lim_ok, asD_e, asU_e, asB_e, asL_e, ix_e, lT_e, lD_e, fDat_e, fL_e, bl_e, not_e, and_e, or_e, neg_e, neg_i, call1_e, call_e, if_e, chain_e, sc1_i, sc1_b, add_i, add_t, sub_i, mul_i, mod_i, fdiv_i, shr_i, pow_i, lt_i, le_i, gt_i, ge_i, eq_i, ne_i, ite_or, ite_and, ite_bl, eq_S, ne_S, len_S, ix_S, atI_0, atI_1, atI_2, atI_3, atI_4, atI_5, part_e, partD_i, cut_e, cut_to, cut_from, SX.S_len, isIn_strT, isIn_strL, in_sign, notIn_sign, len_l, len_t, min_i, max_i, er_lstD, itemsL_lstD, itemsL_lst, walk_lst, walk_tup, walk_lstD, walk_str, ix_lstD, l2_e, range1_e, rng1_i, lI_e, fWalk_e, dwalk_l, dwalk_t, dwalk_s, signs_S, htup_e, hcons_e, hnil_e, clr_n, clr_c, isE_e, isEd_r, lcut_e, cutD_to, str_s, ne_bls, ixl_e, ixt_e, ixo_e, S.er, Option.bind_some, Option.bind_none, Option.map_some, Option.map_none, O.opt_some, O.bind_ok, List.length_cons, List.length_nil, List.length_map, List.set_cons_zero, List.set_cons_succ, List.cons_append, List.nil_append, List.map_cons, List.map_nil]; rfl) (fun e => ?_) fun e1 => w_nx ?_
        · refine w_retDS (d := .int 3) (by simp (disch := first | omega | (simp only [List.length_cons, List.length_nil, List.length_append, List.length_map]; omega) | assumption | decide) only [Int.reduceToNat, Int.reducePow, Nat.reduceAdd, Nat.reducePow, own_0, own_s, var_0, var_s, c_e, bin_e, cmp_e, tst_e, tru_b, tup_e, cons_e, nil_e, lst_e, lim_ok, asD_e, asU_e, asB_e, asL_e, ix_e, lT_e, lD_e, fDat_e, fL_e, bl_e, not_e, and_e, or_e, neg_e, neg_i, call1_e, call_e, if_e, chain_e, sc1_i, sc1_b, add_i, add_t, sub_i, mul_i, mod_i, fdiv_i, shr_i, pow_i, lt_i, le_i, gt_i, ge_i, eq_i, ne_i, ite_or, ite_and, ite_bl, eq_S, ne_S, len_S, ix_S, atI_0, atI_1, atI_2, atI_3, atI_4, atI_5, part_e, partD_i, cut_e, cut_to, cut_from, SX.S_len, isIn_strT, isIn_strL, in_sign, notIn_sign, len_l, len_t, min_i, max_i, er_lstD, itemsL_lstD, itemsL_lst, walk_lst, walk_tup, walk_lstD, walk_str, ix_lstD, l2_e, range1_e, rng1_i, lI_e, fWalk_e, dwalk_l, dwalk_t, dwalk_s, signs_S, htup_e, hcons_e, hnil_e, clr_n, clr_c, isE_e, isEd_r, lcut_e, cutD_to, str_s, ne_bls, ixl_e, ixt_e, ixo_e, S.er, Option.bind_some, Option.bind_none, Option.map_some, Option.map_none, O.opt_some, O.bind_ok, List.length_cons, List.length_nil, List.length_map, List.set_cons_zero, List.set_cons_succ, List.cons_append, List.nil_append, List.map_cons, List.map_nil]) ?_
          rw [← hd, dueB, if_pos e]; rfl
        have hb1 : -99 ≤ b.lo ∧ b.hi ≤ 99 ∧ b.lo ≤ b.fi ∧ b.fi ≤ b.hi ∧ b.hi - b.lo ≤ 19 := by
          unfold badM at e1
          simp only [Bool.or_eq_false_iff, Bool.not_eq_false', Bool.and_eq_true, decide_eq_true_eq, decide_eq_false_iff_not] at e1
          omega
        refine w_setD (d := .int (manyM many b)) (by simp (disch := first | omega | (simp only [List.length_cons, List.length_nil, List.length_append, List.length_map]; omega) | assumption | decide) only [Int.reduceToNat, Int.reducePow, Nat.reduceAdd, Nat.reducePow, own_0, own_s, var_0, var_s, c_e, bin_e, cmp_e, tst_e, tru_b, tup_e, cons_e, nil_e, lst_e, lim_ok, asD_e, asU_e, asB_e, asL_e, ix_e, lT_e, lD_e, fDat_e, fL_e, bl_e, not_e, and_e, or_e, neg_e, neg_i, call1_e, call_e, if_e, chain_e, sc1_i, sc1_b, add_i, add_t, sub_i, mul_i, mod_i, fdiv_i, shr_i, pow_i, lt_i, le_i, gt_i, ge_i, eq_i, ne_i, ite_or, ite_and, ite_bl, eq_S, ne_S, len_S, ix_S, atI_0, atI_1, atI_2, atI_3, atI_4, atI_5, part_e, partD_i, cut_e, cut_to, cut_from, SX.S_len, isIn_strT, isIn_strL, in_sign, notIn_sign, len_l, len_t, min_i, max_i, er_lstD, itemsL_lstD, itemsL_lst, walk_lst, walk_tup, walk_lstD, walk_str, ix_lstD, l2_e, range1_e, rng1_i, lI_e, fWalk_e, dwalk_l, dwalk_t, dwalk_s, signs_S, htup_e, hcons_e, hnil_e, clr_n, clr_c, isE_e, isEd_r, lcut_e, cutD_to, str_s, ne_bls, ixl_e, ixt_e, ixo_e, S.er, Option.bind_some, Option.bind_none, Option.map_some, Option.map_none, O.opt_some, O.bind_ok, List.length_cons, List.length_nil, List.length_map, List.set_cons_zero, List.set_cons_succ, List.cons_append, List.nil_append, List.map_cons, List.map_nil]; rfl) ?_
        intro ρ2 hρ; simp only [List.set_cons_zero, List.set_cons_succ] at hρ; subst hρ
        refine w_if (c := decide (400 < manyM many b)) (by simp (disch := first | omega | (simp only [List.length_cons, List.length_nil, List.length_append, List.length_map]; omega) | assumption | decide) only [Int.reduceToNat, Int.reducePow, Nat.reduceAdd, Nat.reducePow, own_0, own_s, var_0, var_s, c_e, bin_e, cmp_e, tst_e, tru_b, tup_e, cons_e, nil_e, lst_e, lim_ok, asD_e, asU_e, asB_e, asL_e, ix_e, lT_e, lD_e, fDat_e, fL_e, bl_e, not_e, and_e, or_e, neg_e, neg_i, call1_e, call_e, if_e, chain_e, sc1_i, sc1_b, add_i, add_t, sub_i, mul_i, mod_i, fdiv_i, shr_i, pow_i, lt_i, le_i, gt_i, ge_i, eq_i, ne_i, ite_or, ite_and, ite_bl, eq_S, ne_S, len_S, ix_S, atI_0, atI_1, atI_2, atI_3, atI_4, atI_5, part_e, partD_i, cut_e, cut_to, cut_from, SX.S_len, isIn_strT, isIn_strL, in_sign, notIn_sign, len_l, len_t, min_i, max_i, er_lstD, itemsL_lstD, itemsL_lst, walk_lst, walk_tup, walk_lstD, walk_str, ix_lstD, l2_e, range1_e, rng1_i, lI_e, fWalk_e, dwalk_l, dwalk_t, dwalk_s, signs_S, htup_e, hcons_e, hnil_e, clr_n, clr_c, isE_e, isEd_r, lcut_e, cutD_to, str_s, ne_bls, ixl_e, ixt_e, ixo_e, S.er, Option.bind_some, Option.bind_none, Option.map_some, Option.map_none, O.opt_some, O.bind_ok, List.length_cons, List.length_nil, List.length_map, List.set_cons_zero, List.set_cons_succ, List.cons_append, List.nil_append, List.map_cons, List.map_nil]) (fun e => ?_) fun e2 => w_nx ?_
        · refine w_retDS (d := .int 3) (by simp (disch := first | omega | (simp only [List.length_cons, List.length_nil, List.length_append, List.length_map]; omega) | assumption | decide) only [Int.reduceToNat, Int.reducePow, Nat.reduceAdd, Nat.reducePow, own_0, own_s, var_0, var_s, c_e, bin_e, cmp_e, tst_e, tru_b, tup_e, cons_e, nil_e, lst_e, lim_ok, asD_e, asU_e, asB_e, asL_e, ix_e, lT_e, lD_e, fDat_e, fL_e, bl_e, not_e, and_e, or_e, neg_e, neg_i, call1_e, call_e, if_e, chain_e, sc1_i, sc1_b, add_i, add_t, sub_i, mul_i, mod_i, fdiv_i, shr_i, pow_i, lt_i, le_i, gt_i, ge_i, eq_i, ne_i, ite_or, ite_and, ite_bl, eq_S, ne_S, len_S, ix_S, atI_0, atI_1, atI_2, atI_3, atI_4, atI_5, part_e, partD_i, cut_e, cut_to, cut_from, SX.S_len, isIn_strT, isIn_strL, in_sign, notIn_sign, len_l, len_t, min_i, max_i, er_lstD, itemsL_lstD, itemsL_lst, walk_lst, walk_tup, walk_lstD, walk_str, ix_lstD, l2_e, range1_e, rng1_i, lI_e, fWalk_e, dwalk_l, dwalk_t, dwalk_s, signs_S, htup_e, hcons_e, hnil_e, clr_n, clr_c, isE_e, isEd_r, lcut_e, cutD_to, str_s, ne_bls, ixl_e, ixt_e, ixo_e, S.er, Option.bind_some, Option.bind_none, Option.map_some, Option.map_none, O.opt_some, O.bind_ok, List.length_cons, List.length_nil, List.length_map, List.set_cons_zero, List.set_cons_succ, List.cons_append, List.nil_append, List.map_cons, List.map_nil]) ?_
          rw [← hd, dueB, if_neg (by rw [e1]; decide), if_pos (by simpa using e)]; rfl
        refine w_if (c := decide (b.nm ∈ tk.map Bx.nm)) ?_ (fun e => ?_) fun e3 => w_nx ?_
        · simp (disch := first | omega | (simp only [List.length_cons, List.length_nil, List.length_append, List.length_map]; omega) | assumption | decide) only [Int.reduceToNat, Int.reducePow, Nat.reduceAdd, Nat.reducePow, own_0, own_s, var_0, var_s, c_e, bin_e, cmp_e, tst_e, tru_b, tup_e, cons_e, nil_e, lst_e, lim_ok, asD_e, asU_e, asB_e, asL_e, ix_e, lT_e, lD_e, fDat_e, fL_e, bl_e, not_e, and_e, or_e, neg_e, neg_i, call1_e, call_e, if_e, chain_e, sc1_i, sc1_b, add_i, add_t, sub_i, mul_i, mod_i, fdiv_i, shr_i, pow_i, lt_i, le_i, gt_i, ge_i, eq_i, ne_i, ite_or, ite_and, ite_bl, eq_S, ne_S, len_S, ix_S, atI_0, atI_1, atI_2, atI_3, atI_4, atI_5, part_e, partD_i, cut_e, cut_to, cut_from, SX.S_len, isIn_strT, isIn_strL, in_sign, notIn_sign, len_l, len_t, min_i, max_i, er_lstD, itemsL_lstD, itemsL_lst, walk_lst, walk_tup, walk_lstD, walk_str, ix_lstD, l2_e, range1_e, rng1_i, lI_e, fWalk_e, dwalk_l, dwalk_t, dwalk_s, signs_S, htup_e, hcons_e, hnil_e, clr_n, clr_c, isE_e, isEd_r, lcut_e, cutD_to, str_s, ne_bls, ixl_e, ixt_e, ixo_e, S.er, Option.bind_some, Option.bind_none, Option.map_some, Option.map_none, O.opt_some, O.bind_ok, List.length_cons, List.length_nil, List.length_map, List.set_cons_zero, List.set_cons_succ, List.cons_append, List.nil_append, List.map_cons, List.map_nil]
          rw [show (tk.map fun b => T b.nm) = ((tk.map Bx.nm).map fun w => .str (SX.S w)) from by rw [List.map_map]; rfl]
          simp (disch := first | omega | (simp only [List.length_cons, List.length_nil, List.length_append, List.length_map]; omega) | assumption | decide) only [Int.reduceToNat, Int.reducePow, Nat.reduceAdd, Nat.reducePow, own_0, own_s, var_0, var_s, c_e, bin_e, cmp_e, tst_e, tru_b, tup_e, cons_e, nil_e, lst_e, lim_ok, asD_e, asU_e, asB_e, asL_e, ix_e, lT_e, lD_e, fDat_e, fL_e, bl_e, not_e, and_e, or_e, neg_e, neg_i, call1_e, call_e, if_e, chain_e, sc1_i, sc1_b, add_i, add_t, sub_i, mul_i, mod_i, fdiv_i, shr_i, pow_i, lt_i, le_i, gt_i, ge_i, eq_i, ne_i, ite_or, ite_and, ite_bl, eq_S, ne_S, len_S, ix_S, atI_0, atI_1, atI_2, atI_3, atI_4, atI_5, part_e, partD_i, cut_e, cut_to, cut_from, SX.S_len, isIn_strT, isIn_strL, in_sign, notIn_sign, len_l, len_t, min_i, max_i, er_lstD, itemsL_lstD, itemsL_lst, walk_lst, walk_tup, walk_lstD, walk_str, ix_lstD, l2_e, range1_e, rng1_i, lI_e, fWalk_e, dwalk_l, dwalk_t, dwalk_s, signs_S, htup_e, hcons_e, hnil_e, clr_n, clr_c, isE_e, isEd_r, lcut_e, cutD_to, str_s, ne_bls, ixl_e, ixt_e, ixo_e, S.er, Option.bind_some, Option.bind_none, Option.map_some, Option.map_none, O.opt_some, O.bind_ok, List.length_cons, List.length_nil, List.length_map, List.set_cons_zero, List.set_cons_succ, List.cons_append, List.nil_append, List.map_cons, List.map_nil]
        · refine w_retDS (d := .int 4) (by simp (disch := first | omega | (simp only [List.length_cons, List.length_nil, List.length_append, List.length_map]; omega) | assumption | decide) only [Int.reduceToNat, Int.reducePow, Nat.reduceAdd, Nat.reducePow, own_0, own_s, var_0, var_s, c_e, bin_e, cmp_e, tst_e, tru_b, tup_e, cons_e, nil_e, lst_e, lim_ok, asD_e, asU_e, asB_e, asL_e, ix_e, lT_e, lD_e, fDat_e, fL_e, bl_e, not_e, and_e, or_e, neg_e, neg_i, call1_e, call_e, if_e, chain_e, sc1_i, sc1_b, add_i, add_t, sub_i, mul_i, mod_i, fdiv_i, shr_i, pow_i, lt_i, le_i, gt_i, ge_i, eq_i, ne_i, ite_or, ite_and, ite_bl, eq_S, ne_S, len_S, ix_S, atI_0, atI_1, atI_2, atI_3, atI_4, atI_5, part_e, partD_i, cut_e, cut_to, cut_from, SX.S_len, isIn_strT, isIn_strL, in_sign, notIn_sign, len_l, len_t, min_i, max_i, er_lstD, itemsL_lstD, itemsL_lst, walk_lst, walk_tup, walk_lstD, walk_str, ix_lstD, l2_e, range1_e, rng1_i, lI_e, fWalk_e, dwalk_l, dwalk_t, dwalk_s, signs_S, htup_e, hcons_e, hnil_e, clr_n, clr_c, isE_e, isEd_r, lcut_e, cutD_to, str_s, ne_bls, ixl_e, ixt_e, ixo_e, S.er, Option.bind_some, Option.bind_none, Option.map_some, Option.map_none, O.opt_some, O.bind_ok, List.length_cons, List.length_nil, List.length_map, List.set_cons_zero, List.set_cons_succ, List.cons_append, List.nil_append, List.map_cons, List.map_nil]) ?_
          rw [← hd, dueB, if_neg (by rw [e1]; decide), if_neg (by simpa using e2), if_pos (by simpa using e)]; rfl
        refine w_if (c := decide (tk.length = 4)) ?_ (fun e => ?_) fun e4 => w_nx ?_
        · simp (disch := first | omega | (simp only [List.length_cons, List.length_nil, List.length_append, List.length_map]; omega) | assumption | decide) only [Int.reduceToNat, Int.reducePow, Nat.reduceAdd, Nat.reducePow, own_0, own_s, var_0, var_s, c_e, bin_e, cmp_e, tst_e, tru_b, tup_e, cons_e, nil_e, lst_e, lim_ok, asD_e, asU_e, asB_e, asL_e, ix_e, lT_e, lD_e, fDat_e, fL_e, bl_e, not_e, and_e, or_e, neg_e, neg_i, call1_e, call_e, if_e, chain_e, sc1_i, sc1_b, add_i, add_t, sub_i, mul_i, mod_i, fdiv_i, shr_i, pow_i, lt_i, le_i, gt_i, ge_i, eq_i, ne_i, ite_or, ite_and, ite_bl, eq_S, ne_S, len_S, ix_S, atI_0, atI_1, atI_2, atI_3, atI_4, atI_5, part_e, partD_i, cut_e, cut_to, cut_from, SX.S_len, isIn_strT, isIn_strL, in_sign, notIn_sign, len_l, len_t, min_i, max_i, er_lstD, itemsL_lstD, itemsL_lst, walk_lst, walk_tup, walk_lstD, walk_str, ix_lstD, l2_e, range1_e, rng1_i, lI_e, fWalk_e, dwalk_l, dwalk_t, dwalk_s, signs_S, htup_e, hcons_e, hnil_e, clr_n, clr_c, isE_e, isEd_r, lcut_e, cutD_to, str_s, ne_bls, ixl_e, ixt_e, ixo_e, S.er, Option.bind_some, Option.bind_none, Option.map_some, Option.map_none, O.opt_some, O.bind_ok, List.length_cons, List.length_nil, List.length_map, List.set_cons_zero, List.set_cons_succ, List.cons_append, List.nil_append, List.map_cons, List.map_nil]
          simp [tru]
          omega
        · refine w_retDS (d := .int 5) (by simp (disch := first | omega | (simp only [List.length_cons, List.length_nil, List.length_append, List.length_map]; omega) | assumption | decide) only [Int.reduceToNat, Int.reducePow, Nat.reduceAdd, Nat.reducePow, own_0, own_s, var_0, var_s, c_e, bin_e, cmp_e, tst_e, tru_b, tup_e, cons_e, nil_e, lst_e, lim_ok, asD_e, asU_e, asB_e, asL_e, ix_e, lT_e, lD_e, fDat_e, fL_e, bl_e, not_e, and_e, or_e, neg_e, neg_i, call1_e, call_e, if_e, chain_e, sc1_i, sc1_b, add_i, add_t, sub_i, mul_i, mod_i, fdiv_i, shr_i, pow_i, lt_i, le_i, gt_i, ge_i, eq_i, ne_i, ite_or, ite_and, ite_bl, eq_S, ne_S, len_S, ix_S, atI_0, atI_1, atI_2, atI_3, atI_4, atI_5, part_e, partD_i, cut_e, cut_to, cut_from, SX.S_len, isIn_strT, isIn_strL, in_sign, notIn_sign, len_l, len_t, min_i, max_i, er_lstD, itemsL_lstD, itemsL_lst, walk_lst, walk_tup, walk_lstD, walk_str, ix_lstD, l2_e, range1_e, rng1_i, lI_e, fWalk_e, dwalk_l, dwalk_t, dwalk_s, signs_S, htup_e, hcons_e, hnil_e, clr_n, clr_c, isE_e, isEd_r, lcut_e, cutD_to, str_s, ne_bls, ixl_e, ixt_e, ixo_e, S.er, Option.bind_some, Option.bind_none, Option.map_some, Option.map_none, O.opt_some, O.bind_ok, List.length_cons, List.length_nil, List.length_map, List.set_cons_zero, List.set_cons_succ, List.cons_append, List.nil_append, List.map_cons, List.map_nil]) ?_
          rw [← hd, dueB, if_neg (by rw [e1]; decide), if_neg (by simpa using e2), if_neg (by simpa using e3), if_pos (by simpa using e)]; rfl
        refine wp_ok (a := .nx) (app_ok (d := T b.nm) (xs := tk.map fun b => T b.nm) (by simp (disch := first | omega | (simp only [List.length_cons, List.length_nil, List.length_append, List.length_map]; omega) | assumption | decide) only [Int.reduceToNat, Int.reducePow, Nat.reduceAdd, Nat.reducePow, own_0, own_s, var_0, var_s, c_e, bin_e, cmp_e, tst_e, tru_b, tup_e, cons_e, nil_e, lst_e, lim_ok, asD_e, asU_e, asB_e, asL_e, ix_e, lT_e, lD_e, fDat_e, fL_e, bl_e, not_e, and_e, or_e, neg_e, neg_i, call1_e, call_e, if_e, chain_e, sc1_i, sc1_b, add_i, add_t, sub_i, mul_i, mod_i, fdiv_i, shr_i, pow_i, lt_i, le_i, gt_i, ge_i, eq_i, ne_i, ite_or, ite_and, ite_bl, eq_S, ne_S, len_S, ix_S, atI_0, atI_1, atI_2, atI_3, atI_4, atI_5, part_e, partD_i, cut_e, cut_to, cut_from, SX.S_len, isIn_strT, isIn_strL, in_sign, notIn_sign, len_l, len_t, min_i, max_i, er_lstD, itemsL_lstD, itemsL_lst, walk_lst, walk_tup, walk_lstD, walk_str, ix_lstD, l2_e, range1_e, rng1_i, lI_e, fWalk_e, dwalk_l, dwalk_t, dwalk_s, signs_S, htup_e, hcons_e, hnil_e, clr_n, clr_c, isE_e, isEd_r, lcut_e, cutD_to, str_s, ne_bls, ixl_e, ixt_e, ixo_e, S.er, Option.bind_some, Option.bind_none, Option.map_some, Option.map_none, O.opt_some, O.bind_ok, List.length_cons, List.length_nil, List.length_map, List.set_cons_zero, List.set_cons_succ, List.cons_append, List.nil_append, List.map_cons, List.map_nil]) rfl (by rw [List.length_map]; omega)) ?_
        have e0 : dueB tk many b = none := by rw [dueB, if_neg (by rw [e1]; decide), if_neg (by simpa using e2), if_neg (by simpa using e3), if_neg (by simpa using e4)]
        rw [e0] at hd
        refine ⟨manyM many b, dueB_none e0 hm.1, ?_, ?_⟩
        · rw [et]; exact hd
        · rw [et, List.map_append]; rfl
      · rintro ρ ⟨many, hm, hd, rfl⟩
        rw [List.length_map] at *
        rw [List.drop_length, dueAll] at hd
        exact ⟨hd.symm, many, _, rfl⟩
    rintro ρ ⟨hd, many, x, rfl⟩
    refine w_retD (d := .int (-1)) (by simp (disch := first | omega | (simp only [List.length_cons, List.length_nil, List.length_append, List.length_map]; omega) | assumption | decide) only [Int.reduceToNat, Int.reducePow, Nat.reduceAdd, Nat.reducePow, own_0, own_s, var_0, var_s, c_e, bin_e, cmp_e, tst_e, tru_b, tup_e, cons_e, nil_e, lst_e, lim_ok, asD_e, asU_e, asB_e, asL_e, ix_e, lT_e, lD_e, fDat_e, fL_e, bl_e, not_e, and_e, or_e, neg_e, neg_i, call1_e, call_e, if_e, chain_e, sc1_i, sc1_b, add_i, add_t, sub_i, mul_i, mod_i, fdiv_i, shr_i, pow_i, lt_i, le_i, gt_i, ge_i, eq_i, ne_i, ite_or, ite_and, ite_bl, eq_S, ne_S, len_S, ix_S, atI_0, atI_1, atI_2, atI_3, atI_4, atI_5, part_e, partD_i, cut_e, cut_to, cut_from, SX.S_len, isIn_strT, isIn_strL, in_sign, notIn_sign, len_l, len_t, min_i, max_i, er_lstD, itemsL_lstD, itemsL_lst, walk_lst, walk_tup, walk_lstD, walk_str, ix_lstD, l2_e, range1_e, rng1_i, lI_e, fWalk_e, dwalk_l, dwalk_t, dwalk_s, signs_S, htup_e, hcons_e, hnil_e, clr_n, clr_c, isE_e, isEd_r, lcut_e, cutD_to, str_s, ne_bls, ixl_e, ixt_e, ixo_e, S.er, Option.bind_some, Option.bind_none, Option.map_some, Option.map_none, O.opt_some, O.bind_ok, List.length_cons, List.length_nil, List.length_map, List.set_cons_zero, List.set_cons_succ, List.cons_append, List.nil_append, List.map_cons, List.map_nil]) ?_
    rw [hd]; rfl
  obtain ⟨s, ρ, e, rfl⟩ := w.ok
  exact ⟨ρ, e⟩

def told13 (k : Str) : List Bool := [k == "TooLong", k == "NoRow", k == "NoPlace", k == "NoMeasure", k == "Twice", k == "Full", k == "NoBox", k == "NoMark", k == "NoSaying", k == "NoForm", k == "NoneYet", k == "NotSeen", false]
theorem su_val (a : Addr) (k : Str) (x : Option DL.S) (y : Option DL.S) (r : DL.Env) : su_l_law_refused a k (x :: y :: some (.dat (.ref a)) :: r) = .ok .nx (x :: some (lstD ((told13 k).map .bl)) :: some (.dat (.ref a)) :: r) := by
  unfold su_l_law_refused
  rw [seq_ok (set_ok (s := lstD [.bl (k == "TooLong"), .bl (k == "NoRow"), .bl (k == "NoPlace"), .bl (k == "NoMeasure")]) (ρ1 := x :: y :: some (.dat (.ref a)) :: r) (by simp (disch := first | omega | (simp only [List.length_cons, List.length_nil, List.length_append, List.length_map]; omega) | assumption | decide) only [Int.reduceToNat, Int.reducePow, Nat.reduceAdd, Nat.reducePow, own_0, own_s, var_0, var_s, c_e, bin_e, cmp_e, tst_e, tru_b, tup_e, cons_e, nil_e, lst_e, lim_ok, asD_e, asU_e, asB_e, asL_e, ix_e, lT_e, lD_e, fDat_e, fL_e, bl_e, not_e, and_e, or_e, neg_e, neg_i, call1_e, call_e, if_e, chain_e, sc1_i, sc1_b, add_i, add_t, sub_i, mul_i, mod_i, fdiv_i, shr_i, pow_i, lt_i, le_i, gt_i, ge_i, eq_i, ne_i, ite_or, ite_and, ite_bl, eq_S, ne_S, len_S, ix_S, atI_0, atI_1, atI_2, atI_3, atI_4, atI_5, part_e, partD_i, cut_e, cut_to, cut_from, SX.S_len, isIn_strT, isIn_strL, in_sign, notIn_sign, len_l, len_t, min_i, max_i, er_lstD, itemsL_lstD, itemsL_lst, walk_lst, walk_tup, walk_lstD, walk_str, ix_lstD, l2_e, range1_e, rng1_i, lI_e, fWalk_e, dwalk_l, dwalk_t, dwalk_s, signs_S, htup_e, hcons_e, hnil_e, clr_n, clr_c, isE_e, isEd_r, lcut_e, cutD_to, str_s, ne_bls, ixl_e, ixt_e, ixo_e, S.er, Option.bind_some, Option.bind_none, Option.map_some, Option.map_none, O.opt_some, O.bind_ok, List.length_cons, List.length_nil, List.length_map, List.set_cons_zero, List.set_cons_succ, List.cons_append, List.nil_append, List.map_cons, List.map_nil]) (by simp))]
  simp only [List.set_cons_zero, List.set_cons_succ]
  rw [seq_ok (set_ok (s := lstD ([.bl (k == "TooLong"), .bl (k == "NoRow"), .bl (k == "NoPlace"), .bl (k == "NoMeasure")] ++ [.bl (k == "Twice"), .bl (k == "Full"), .bl (k == "NoBox"), .bl (k == "NoMark")])) (ρ1 := x :: some (lstD [.bl (k == "TooLong"), .bl (k == "NoRow"), .bl (k == "NoPlace"), .bl (k == "NoMeasure")]) :: some (.dat (.ref a)) :: r) (by simp (disch := first | omega | (simp only [List.length_cons, List.length_nil, List.length_append, List.length_map]; omega) | assumption | decide) only [Int.reduceToNat, Int.reducePow, Nat.reduceAdd, Nat.reducePow, own_0, own_s, var_0, var_s, c_e, bin_e, cmp_e, tst_e, tru_b, tup_e, cons_e, nil_e, lst_e, lim_ok, asD_e, asU_e, asB_e, asL_e, ix_e, lT_e, lD_e, fDat_e, fL_e, bl_e, not_e, and_e, or_e, neg_e, neg_i, call1_e, call_e, if_e, chain_e, sc1_i, sc1_b, add_i, add_t, sub_i, mul_i, mod_i, fdiv_i, shr_i, pow_i, lt_i, le_i, gt_i, ge_i, eq_i, ne_i, ite_or, ite_and, ite_bl, eq_S, ne_S, len_S, ix_S, atI_0, atI_1, atI_2, atI_3, atI_4, atI_5, part_e, partD_i, cut_e, cut_to, cut_from, SX.S_len, isIn_strT, isIn_strL, in_sign, notIn_sign, len_l, len_t, min_i, max_i, er_lstD, itemsL_lstD, itemsL_lst, walk_lst, walk_tup, walk_lstD, walk_str, ix_lstD, l2_e, range1_e, rng1_i, lI_e, fWalk_e, dwalk_l, dwalk_t, dwalk_s, signs_S, htup_e, hcons_e, hnil_e, clr_n, clr_c, isE_e, isEd_r, lcut_e, cutD_to, str_s, ne_bls, ixl_e, ixt_e, ixo_e, S.er, Option.bind_some, Option.bind_none, Option.map_some, Option.map_none, O.opt_some, O.bind_ok, List.length_cons, List.length_nil, List.length_map, List.set_cons_zero, List.set_cons_succ, List.cons_append, List.nil_append, List.map_cons, List.map_nil]) (by simp))]
  simp only [List.set_cons_zero, List.set_cons_succ, List.cons_append, List.nil_append]
  rw [seq_ok (set_ok (s := lstD ([.bl (k == "TooLong"), .bl (k == "NoRow"), .bl (k == "NoPlace"), .bl (k == "NoMeasure"), .bl (k == "Twice"), .bl (k == "Full"), .bl (k == "NoBox"), .bl (k == "NoMark")] ++ [.bl (k == "NoSaying"), .bl (k == "NoForm"), .bl (k == "NoneYet"), .bl (k == "NotSeen")])) (ρ1 := x :: some (lstD [.bl (k == "TooLong"), .bl (k == "NoRow"), .bl (k == "NoPlace"), .bl (k == "NoMeasure"), .bl (k == "Twice"), .bl (k == "Full"), .bl (k == "NoBox"), .bl (k == "NoMark")]) :: some (.dat (.ref a)) :: r) (by simp (disch := first | omega | (simp only [List.length_cons, List.length_nil, List.length_append, List.length_map]; omega) | assumption | decide) only [Int.reduceToNat, Int.reducePow, Nat.reduceAdd, Nat.reducePow, own_0, own_s, var_0, var_s, c_e, bin_e, cmp_e, tst_e, tru_b, tup_e, cons_e, nil_e, lst_e, lim_ok, asD_e, asU_e, asB_e, asL_e, ix_e, lT_e, lD_e, fDat_e, fL_e, bl_e, not_e, and_e, or_e, neg_e, neg_i, call1_e, call_e, if_e, chain_e, sc1_i, sc1_b, add_i, add_t, sub_i, mul_i, mod_i, fdiv_i, shr_i, pow_i, lt_i, le_i, gt_i, ge_i, eq_i, ne_i, ite_or, ite_and, ite_bl, eq_S, ne_S, len_S, ix_S, atI_0, atI_1, atI_2, atI_3, atI_4, atI_5, part_e, partD_i, cut_e, cut_to, cut_from, SX.S_len, isIn_strT, isIn_strL, in_sign, notIn_sign, len_l, len_t, min_i, max_i, er_lstD, itemsL_lstD, itemsL_lst, walk_lst, walk_tup, walk_lstD, walk_str, ix_lstD, l2_e, range1_e, rng1_i, lI_e, fWalk_e, dwalk_l, dwalk_t, dwalk_s, signs_S, htup_e, hcons_e, hnil_e, clr_n, clr_c, isE_e, isEd_r, lcut_e, cutD_to, str_s, ne_bls, ixl_e, ixt_e, ixo_e, S.er, Option.bind_some, Option.bind_none, Option.map_some, Option.map_none, O.opt_some, O.bind_ok, List.length_cons, List.length_nil, List.length_map, List.set_cons_zero, List.set_cons_succ, List.cons_append, List.nil_append, List.map_cons, List.map_nil]) (by simp))]
  simp only [List.set_cons_zero, List.set_cons_succ, List.cons_append, List.nil_append]
  rw [app_ok (d := .bl false) (xs := [.bl (k == "TooLong"), .bl (k == "NoRow"), .bl (k == "NoPlace"), .bl (k == "NoMeasure"), .bl (k == "Twice"), .bl (k == "Full"), .bl (k == "NoBox"), .bl (k == "NoMark"), .bl (k == "NoSaying"), .bl (k == "NoForm"), .bl (k == "NoneYet"), .bl (k == "NotSeen")]) (by simp (disch := first | omega | (simp only [List.length_cons, List.length_nil, List.length_append, List.length_map]; omega) | assumption | decide) only [Int.reduceToNat, Int.reducePow, Nat.reduceAdd, Nat.reducePow, own_0, own_s, var_0, var_s, c_e, bin_e, cmp_e, tst_e, tru_b, tup_e, cons_e, nil_e, lst_e, lim_ok, asD_e, asU_e, asB_e, asL_e, ix_e, lT_e, lD_e, fDat_e, fL_e, bl_e, not_e, and_e, or_e, neg_e, neg_i, call1_e, call_e, if_e, chain_e, sc1_i, sc1_b, add_i, add_t, sub_i, mul_i, mod_i, fdiv_i, shr_i, pow_i, lt_i, le_i, gt_i, ge_i, eq_i, ne_i, ite_or, ite_and, ite_bl, eq_S, ne_S, len_S, ix_S, atI_0, atI_1, atI_2, atI_3, atI_4, atI_5, part_e, partD_i, cut_e, cut_to, cut_from, SX.S_len, isIn_strT, isIn_strL, in_sign, notIn_sign, len_l, len_t, min_i, max_i, er_lstD, itemsL_lstD, itemsL_lst, walk_lst, walk_tup, walk_lstD, walk_str, ix_lstD, l2_e, range1_e, rng1_i, lI_e, fWalk_e, dwalk_l, dwalk_t, dwalk_s, signs_S, htup_e, hcons_e, hnil_e, clr_n, clr_c, isE_e, isEd_r, lcut_e, cutD_to, str_s, ne_bls, ixl_e, ixt_e, ixo_e, S.er, Option.bind_some, Option.bind_none, Option.map_some, Option.map_none, O.opt_some, O.bind_ok, List.length_cons, List.length_nil, List.length_map, List.set_cons_zero, List.set_cons_succ, List.cons_append, List.nil_append, List.map_cons, List.map_nil]; rfl) rfl (by simp)]
  rfl
theorem su_ind (a : Addr) (k : Str) (ρ : DL.Env) : unsetO 2 (su_l_law_refused a k (ρ.set 2 (some (.dat (.ref a))))) = unsetO 2 (su_l_law_refused 0 k (ρ.set 2 (some (.dat (.ref 0))))) := by
  match ρ with
  | [] => rfl
  | [x] => rfl
  | [x, y] => rfl
  | x :: y :: z :: r =>
    simp only [List.set_cons_zero, List.set_cons_succ]
    rw [su_val, su_val]
    rfl
theorem due_mem {bs : List Bx} {many : Int} {b : Bx} {k : Str} (h : dueB bs many b = some k) : k ∈ (["NoMeasure", "Twice", "Full"] : List Str) := by
  unfold dueB at h
  split at h
  · cases h; decide
  · split at h
    · cases h; decide
    · split at h
      · cases h; decide
      · split at h
        · cases h; decide
        · cases h
theorem dueAll_mem : ∀ {r bs : List Bx} {many : Int} {k : Str}, dueAll bs many r = some k → k ∈ (["NoMeasure", "Twice", "Full"] : List Str)
  | [], bs, many, k, h => by cases h
  | b :: r, bs, many, k, h => by
    rw [dueAll] at h
    split at h
    · rename_i e; cases h; exact due_mem e
    · exact dueAll_mem h
theorem refused_ok (bs : List Bx) (hne : bs ≠ []) (hl : bs.length ≤ 10) (h : ∀ b ∈ bs, b.Ok) (k : Str) (hk : dueAll [] 1 bs = some k) : ∃ ρ, F_l_law_refused [.dat (T (textOf bs))] = .ok (lstD ((told13 k).map .bl)) ρ := by
  have w : WP (F_l_law_refused [.dat (T (textOf bs))]) (fun s _ => s = lstD ((told13 k).map .bl)) E0 := by
    refine w_run ?_
    intro ρ2 hρ; simp only [List.map_cons, List.map_nil, List.replicate_succ, List.replicate_zero, List.cons_append, List.nil_append] at hρ; subst hρ
    refine w_set (s := lstD []) (by simp (disch := first | omega | (simp only [List.length_cons, List.length_nil, List.length_append, List.length_map]; omega) | assumption | decide) only [Int.reduceToNat, Int.reducePow, Nat.reduceAdd, Nat.reducePow, own_0, own_s, var_0, var_s, c_e, bin_e, cmp_e, tst_e, tru_b, tup_e, cons_e, nil_e, lst_e, lim_ok, asD_e, asU_e, asB_e, asL_e, ix_e, lT_e, lD_e, fDat_e, fL_e, bl_e, not_e, and_e, or_e, neg_e, neg_i, call1_e, call_e, if_e, chain_e, sc1_i, sc1_b, add_i, add_t, sub_i, mul_i, mod_i, fdiv_i, shr_i, pow_i, lt_i, le_i, gt_i, ge_i, eq_i, ne_i, ite_or, ite_and, ite_bl, eq_S, ne_S, len_S, ix_S, atI_0, atI_1, atI_2, atI_3, atI_4, atI_5, part_e, partD_i, cut_e, cut_to, cut_from, SX.S_len, isIn_strT, isIn_strL, in_sign, notIn_sign, len_l, len_t, min_i, max_i, er_lstD, itemsL_lstD, itemsL_lst, walk_lst, walk_tup, walk_lstD, walk_str, ix_lstD, l2_e, range1_e, rng1_i, lI_e, fWalk_e, dwalk_l, dwalk_t, dwalk_s, signs_S, htup_e, hcons_e, hnil_e, clr_n, clr_c, isE_e, isEd_r, lcut_e, cutD_to, str_s, ne_bls, ixl_e, ixt_e, ixo_e, S.er, Option.bind_some, Option.bind_none, Option.map_some, Option.map_none, O.opt_some, O.bind_ok, List.length_cons, List.length_nil, List.length_map, List.set_cons_zero, List.set_cons_succ, List.cons_append, List.nil_append, List.map_cons, List.map_nil]; rfl) ?_
    intro ρ2 hρ; simp only [List.set_cons_zero, List.set_cons_succ] at hρ; subst hρ
    refine w_cut (R := fun fl ρ => fl = .nx ∧ ρ = [some (.dat (T (textOf bs))), some (lstD ((told13 k).map .bl)), none]) ?_ ?_ (fun fl ρ' h1 h2 => absurd h2.1 h1)
    · refine w_tryAs (w_drop (w_call (ds := [T (textOf bs)]) (by simp (disch := first | omega | (simp only [List.length_cons, List.length_nil, List.length_append, List.length_map]; omega) | assumption | decide) only [Int.reduceToNat, Int.reducePow, Nat.reduceAdd, Nat.reducePow, own_0, own_s, var_0, var_s, c_e, bin_e, cmp_e, tst_e, tru_b, tup_e, cons_e, nil_e, lst_e, lim_ok, asD_e, asU_e, asB_e, asL_e, ix_e, lT_e, lD_e, fDat_e, fL_e, bl_e, not_e, and_e, or_e, neg_e, neg_i, call1_e, call_e, if_e, chain_e, sc1_i, sc1_b, add_i, add_t, sub_i, mul_i, mod_i, fdiv_i, shr_i, pow_i, lt_i, le_i, gt_i, ge_i, eq_i, ne_i, ite_or, ite_and, ite_bl, eq_S, ne_S, len_S, ix_S, atI_0, atI_1, atI_2, atI_3, atI_4, atI_5, part_e, partD_i, cut_e, cut_to, cut_from, SX.S_len, isIn_strT, isIn_strL, in_sign, notIn_sign, len_l, len_t, min_i, max_i, er_lstD, itemsL_lstD, itemsL_lst, walk_lst, walk_tup, walk_lstD, walk_str, ix_lstD, l2_e, range1_e, rng1_i, lI_e, fWalk_e, dwalk_l, dwalk_t, dwalk_s, signs_S, htup_e, hcons_e, hnil_e, clr_n, clr_c, isE_e, isEd_r, lcut_e, cutD_to, str_s, ne_bls, ixl_e, ixt_e, ixo_e, S.er, Option.bind_some, Option.bind_none, Option.map_some, Option.map_none, O.opt_some, O.bind_ok, List.length_cons, List.length_nil, List.length_map, List.set_cons_zero, List.set_cons_succ, List.cons_append, List.nil_append, List.map_cons, List.map_nil]) ((read_ok bs hne hl h).imp ?_ ?_)))
      · rintro s ρ ⟨_, e, _⟩; rw [hk] at e; cases e
      · rintro k' ρ ⟨h1, e⟩
        rw [hk] at e
        cases e
        refine ⟨by simpa using h1, ?_, by simp, ?_⟩
        · unfold hitOf; rw [if_pos (dueAll_mem hk)]
        · simp only [List.set_cons_zero, List.set_cons_succ]
          rw [su_val]
          exact ⟨rfl, rfl⟩
    rintro ρ ⟨_, rfl⟩
    exact w_ret (s := lstD ((told13 k).map .bl)) (by rfl) rfl
  obtain ⟨s, ρ, e, rfl⟩ := w.ok
  exact ⟨ρ, e⟩
theorem read_eq (bs : List Bx) (hne : bs ≠ []) (hl : bs.length ≤ 10) (h : ∀ b ∈ bs, b.Ok) (hk : dueAll [] 1 bs = none) : ∃ ρ, F_read [.dat (T (textOf bs))] = .ok (.dat (.tup [.lst (bs.map Bx.d), .lst []])) ρ := by
  have w : WP (F_read [.dat (T (textOf bs))]) (fun s _ => s = .dat (.tup [.lst (bs.map Bx.d), .lst []])) E0 :=
    (read_ok bs hne hl h).imp (fun s ρ h => h.2.2) fun k ρ h => by rw [hk] at h; cases h.2
  obtain ⟨s, ρ, e, rfl⟩ := w.ok
  exact ⟨ρ, e⟩

def prt : List Nat ⊕ Int → D := fun s => match s with
  | .inl w => T w
  | .inr i => .int i
def prtT : List Nat ⊕ Int → List Nat := fun s => match s with
  | .inl w => w
  | .inr i => numT i
def Bx.ps (b : Bx) : List (List Nat ⊕ Int) := [.inl b.nm, .inr b.lo, .inr b.hi, .inr b.fi]
theorem str_num {i : Int} (h : -999 ≤ i ∧ i ≤ 999) : F_str [.int i] = some (T (numT i)) := by
  have h1 : i.natAbs.log2 < 1920 := Nat.lt_of_le_of_lt (Nat.log2_le_self _) (by omega)
  show (if i.natAbs.log2 < 1920 then some (D.str (toString i)) else none) = _
  rw [if_pos h1]
  exact congrArg (fun x => some (D.str x)) (toS_num i)
theorem law_ok (ns : List Int) : ∃ ρ, F_law [.dat (.lst (ns.map .int))] = .ok (.dat (.bl true)) ρ := by
  have w : WP (F_law [.dat (.lst (ns.map .int))]) (fun s _ => s = .dat (.bl true)) E0 := by
    refine w_run ?_
    intro ρ2 hρ; simp only [List.map_cons, List.map_nil, List.replicate_succ, List.replicate_zero, List.cons_append, List.nil_append] at hρ; subst hρ
    have el : ∃ ms : List Int, ms.length ≤ 64 ∧ [D.int 0] ++ (ns.map D.int).take 63 = ms.map .int := ⟨0 :: ns.take 63, by simp; omega, by rw [← List.map_take]; rfl⟩
    obtain ⟨ms, hml, em⟩ := el
    refine w_cut (R := fun fl ρ => fl = .nx ∧ ρ = [some (.dat (.lst (ns.map .int))), none, none, none, none, none, none, none]) ?_ ?_ (fun fl ρ' h1 h2 => absurd h2.1 h1)
    · refine w_forE (ds := ms.map .int) (ρ0 := [some (.dat (.lst (ns.map .int))), none, none, none, none, none, none, none]) (fun j ρ => ρ = [some (.dat (.lst (ns.map .int))), none, none, none, none, none, none, none]) ?_ (fun ρ1 h1 => by rw [← h1]; rfl) ?_ ?_
      · simp only [fWalk_e, lD_e, asL_e, l2_e, lcut_e]
        simp (disch := first | omega | (simp only [List.length_cons, List.length_nil, List.length_append, List.length_map]; omega) | assumption | decide) only [Int.reduceToNat, Int.reducePow, Nat.reduceAdd, Nat.reducePow, own_0, own_s, var_0, var_s, c_e, bin_e, cmp_e, tst_e, tru_b, tup_e, cons_e, nil_e, lst_e, lim_ok, asD_e, asU_e, asB_e, asL_e, ix_e, lT_e, lD_e, fDat_e, fL_e, bl_e, not_e, and_e, or_e, neg_e, neg_i, call1_e, call_e, if_e, chain_e, sc1_i, sc1_b, add_i, add_t, sub_i, mul_i, mod_i, fdiv_i, shr_i, pow_i, lt_i, le_i, gt_i, ge_i, eq_i, ne_i, ite_or, ite_and, ite_bl, eq_S, ne_S, len_S, ix_S, atI_0, atI_1, atI_2, atI_3, atI_4, atI_5, part_e, partD_i, cut_e, cut_to, cut_from, SX.S_len, isIn_strT, isIn_strL, in_sign, notIn_sign, len_l, len_t, min_i, max_i, er_lstD, itemsL_lstD, itemsL_lst, walk_lst, walk_tup, walk_lstD, walk_str, ix_lstD, l2_e, range1_e, rng1_i, lI_e, fWalk_e, dwalk_l, dwalk_t, dwalk_s, signs_S, htup_e, hcons_e, hnil_e, clr_n, clr_c, isE_e, isEd_r, lcut_e, cutD_to, str_s, ne_bls, ixl_e, ixt_e, ixo_e, S.er, Option.bind_some, Option.bind_none, Option.map_some, Option.map_none, O.opt_some, O.bind_ok, List.length_cons, List.length_nil, List.length_map, List.set_cons_zero, List.set_cons_succ, List.cons_append, List.nil_append, List.map_cons, List.map_nil, show Int.toNat 63 = 63 from rfl]
        rw [show (D.int 0 :: List.take 63 (ns.map D.int)) = ms.map .int from em, lim_ok (by rw [List.length_map]; omega)]
        rfl
      · rintro j d ρ hj rfl
        obtain ⟨cell, hc, rfl⟩ := map_at hj
        refine ⟨_, name_e (by rfl), ?_⟩
        simp only [List.set_cons_zero, List.set_cons_succ]
        obtain ⟨bs, ρ1, e1, hne, hbl, hbo⟩ := boxes_ok cell
        refine w_setD (d := .lst (bs.map Bx.d)) ((callF_e (ds := [.int cell]) (by simp (disch := first | omega | (simp only [List.length_cons, List.length_nil, List.length_append, List.length_map]; omega) | assumption | decide) only [Int.reduceToNat, Int.reducePow, Nat.reduceAdd, Nat.reducePow, own_0, own_s, var_0, var_s, c_e, bin_e, cmp_e, tst_e, tru_b, tup_e, cons_e, nil_e, lst_e, lim_ok, asD_e, asU_e, asB_e, asL_e, ix_e, lT_e, lD_e, fDat_e, fL_e, bl_e, not_e, and_e, or_e, neg_e, neg_i, call1_e, call_e, if_e, chain_e, sc1_i, sc1_b, add_i, add_t, sub_i, mul_i, mod_i, fdiv_i, shr_i, pow_i, lt_i, le_i, gt_i, ge_i, eq_i, ne_i, ite_or, ite_and, ite_bl, eq_S, ne_S, len_S, ix_S, atI_0, atI_1, atI_2, atI_3, atI_4, atI_5, part_e, partD_i, cut_e, cut_to, cut_from, SX.S_len, isIn_strT, isIn_strL, in_sign, notIn_sign, len_l, len_t, min_i, max_i, er_lstD, itemsL_lstD, itemsL_lst, walk_lst, walk_tup, walk_lstD, walk_str, ix_lstD, l2_e, range1_e, rng1_i, lI_e, fWalk_e, dwalk_l, dwalk_t, dwalk_s, signs_S, htup_e, hcons_e, hnil_e, clr_n, clr_c, isE_e, isEd_r, lcut_e, cutD_to, str_s, ne_bls, ixl_e, ixt_e, ixo_e, S.er, Option.bind_some, Option.bind_none, Option.map_some, Option.map_none, O.opt_some, O.bind_ok, List.length_cons, List.length_nil, List.length_map, List.set_cons_zero, List.set_cons_succ, List.cons_append, List.nil_append, List.map_cons, List.map_nil]) e1).trans er_lstD) ?_
        intro ρ2 hρ; simp only [List.set_cons_zero, List.set_cons_succ] at hρ; subst hρ
        refine w_setD (d := T (textOf bs)) ?_ ?_
        · refine join_ok (ws := bs.map Bx.row) (by rfl) ?_ (by rw [List.length_map]; omega) fun w hw => ?_
          · rw [List.map_map]
            refine comp_all (xs := bs) Bx.d (fun b => T b.row) (by simp (disch := first | omega | (simp only [List.length_cons, List.length_nil, List.length_append, List.length_map]; omega) | assumption | decide) only [Int.reduceToNat, Int.reducePow, Nat.reduceAdd, Nat.reducePow, own_0, own_s, var_0, var_s, c_e, bin_e, cmp_e, tst_e, tru_b, tup_e, cons_e, nil_e, lst_e, lim_ok, asD_e, asU_e, asB_e, asL_e, ix_e, lT_e, lD_e, fDat_e, fL_e, bl_e, not_e, and_e, or_e, neg_e, neg_i, call1_e, call_e, if_e, chain_e, sc1_i, sc1_b, add_i, add_t, sub_i, mul_i, mod_i, fdiv_i, shr_i, pow_i, lt_i, le_i, gt_i, ge_i, eq_i, ne_i, ite_or, ite_and, ite_bl, eq_S, ne_S, len_S, ix_S, atI_0, atI_1, atI_2, atI_3, atI_4, atI_5, part_e, partD_i, cut_e, cut_to, cut_from, SX.S_len, isIn_strT, isIn_strL, in_sign, notIn_sign, len_l, len_t, min_i, max_i, er_lstD, itemsL_lstD, itemsL_lst, walk_lst, walk_tup, walk_lstD, walk_str, ix_lstD, l2_e, range1_e, rng1_i, lI_e, fWalk_e, dwalk_l, dwalk_t, dwalk_s, signs_S, htup_e, hcons_e, hnil_e, clr_n, clr_c, isE_e, isEd_r, lcut_e, cutD_to, str_s, ne_bls, ixl_e, ixt_e, ixo_e, S.er, Option.bind_some, Option.bind_none, Option.map_some, Option.map_none, O.opt_some, O.bind_ok, List.length_cons, List.length_nil, List.length_map, List.set_cons_zero, List.set_cons_succ, List.cons_append, List.nil_append, List.map_cons, List.map_nil]) (by omega) fun ρ0 h0 b hb => ⟨_, name_e (by rw [← h0]; rfl), ?_⟩
            subst h0
            have hb' := hbo b hb
            refine join_ok (ws := b.parts) (by rfl) ?_ (by unfold Bx.parts; simp) fun w hw => ?_
            · rw [l2_e]
              rw [comp_all (xs := b.ps) prt (fun s => T (prtT s)) (by rfl) (by unfold Bx.ps; simp) fun ρ0 h0 s hs => ⟨_, name_e (by rw [← h0]; rfl), ?_⟩]
              · rfl
              · subst h0
                unfold Bx.ps at hs
                simp only [List.mem_cons, List.not_mem_nil, or_false] at hs
                rcases hs with rfl | rfl | rfl | rfl
                · rfl
                · exact (show _ = F_str [.int b.lo] from rfl).trans (str_num hb'.lo)
                · exact (show _ = F_str [.int b.hi] from rfl).trans (str_num hb'.hi)
                · exact (show _ = F_str [.int b.fi] from rfl).trans (str_num hb'.fi)
            · have := hb'.len
              have h1 := numT_len hb'.lo
              have h2 := numT_len hb'.hi
              have h3 := numT_len hb'.fi
              unfold Bx.parts at hw
              simp only [List.mem_cons, List.not_mem_nil, or_false] at hw
              rcases hw with rfl | rfl | rfl | rfl | rfl <;> first | omega | (unfold cBox; simp)
          · obtain ⟨b, hb, rfl⟩ := List.mem_map.mp hw
            have := (hbo b hb).len_row
            omega
        intro ρ2 hρ; simp only [List.set_cons_zero, List.set_cons_succ] at hρ; subst hρ
        obtain ⟨ρ2, e2⟩ := due_ok bs hbl hbo
        refine w_setD (d := .int (errI (dueAll [] 1 bs))) (callF_e (ds := [.lst (bs.map Bx.d)]) (by simp (disch := first | omega | (simp only [List.length_cons, List.length_nil, List.length_append, List.length_map]; omega) | assumption | decide) only [Int.reduceToNat, Int.reducePow, Nat.reduceAdd, Nat.reducePow, own_0, own_s, var_0, var_s, c_e, bin_e, cmp_e, tst_e, tru_b, tup_e, cons_e, nil_e, lst_e, lim_ok, asD_e, asU_e, asB_e, asL_e, ix_e, lT_e, lD_e, fDat_e, fL_e, bl_e, not_e, and_e, or_e, neg_e, neg_i, call1_e, call_e, if_e, chain_e, sc1_i, sc1_b, add_i, add_t, sub_i, mul_i, mod_i, fdiv_i, shr_i, pow_i, lt_i, le_i, gt_i, ge_i, eq_i, ne_i, ite_or, ite_and, ite_bl, eq_S, ne_S, len_S, ix_S, atI_0, atI_1, atI_2, atI_3, atI_4, atI_5, part_e, partD_i, cut_e, cut_to, cut_from, SX.S_len, isIn_strT, isIn_strL, in_sign, notIn_sign, len_l, len_t, min_i, max_i, er_lstD, itemsL_lstD, itemsL_lst, walk_lst, walk_tup, walk_lstD, walk_str, ix_lstD, l2_e, range1_e, rng1_i, lI_e, fWalk_e, dwalk_l, dwalk_t, dwalk_s, signs_S, htup_e, hcons_e, hnil_e, clr_n, clr_c, isE_e, isEd_r, lcut_e, cutD_to, str_s, ne_bls, ixl_e, ixt_e, ixo_e, S.er, Option.bind_some, Option.bind_none, Option.map_some, Option.map_none, O.opt_some, O.bind_ok, List.length_cons, List.length_nil, List.length_map, List.set_cons_zero, List.set_cons_succ, List.cons_append, List.nil_append, List.map_cons, List.map_nil]) e2) ?_
        intro ρ2 hρ; simp only [List.set_cons_zero, List.set_cons_succ] at hρ; subst hρ
        have hR : ∀ o : Option Str, gComp (gRange1 (gC (.int 13))) (([("k", 6)] : List (Str × Nat)).map (·.2)) (hName 6) (fun _ => some true) (gBl (gCmp D.eq (gVar 4) (gVar 6))) [some (.dat (.lst (ns.map .int))), some (.dat (.int cell)), some (.dat (.lst (bs.map Bx.d))), some (.dat (T (textOf bs))), some (.dat (.int (errI o))), none, none, none] = some (((List.range 13).map fun i => decide (errI o = 0 + ((i : Nat) : Int))).map .bl) := fun o => by
          rw [comp_all (xs := List.range 13) (fun i => .int (0 + ((i : Nat) : Int))) (fun i => .bl (decide (errI o = 0 + ((i : Nat) : Int)))) (by rfl) (by simp) fun ρ0 h0 i hi => ⟨_, name_e (by rw [← h0]; rfl), ?_⟩]
          · rw [List.map_map]; rfl
          · subst h0
            simp only [bl_e, cmp_e]
            exact (show _ = (tru (D.eq (.int (errI o)) (.int (0 + ((i : Nat) : Int))))).map D.bl from rfl).trans (by rw [eq_i]; rfl)
        cases hd : dueAll [] 1 bs with
        | some k =>
          obtain ⟨ρ3, e3⟩ := refused_ok bs hne hbl hbo k hd
          have hk := dueAll_mem hd
          simp only [List.mem_cons, List.not_mem_nil, or_false] at hk
          have hE : 0 ≤ errI (some k) ∧ told13 k = (List.range 13).map fun i => decide (errI (some k) = 0 + ((i : Nat) : Int)) := by
            rcases hk with rfl | rfl | rfl <;> exact ⟨by decide, by decide⟩
          refine w_if (c := false) ?_ (fun h => by cases h) fun _ => w_nx ?_
          · simp only [and_e, cmp_e, asL_e]
            rw [hR (some k), callF_e (ds := [T (textOf bs)]) (by simp (disch := first | omega | (simp only [List.length_cons, List.length_nil, List.length_append, List.length_map]; omega) | assumption | decide) only [Int.reduceToNat, Int.reducePow, Nat.reduceAdd, Nat.reducePow, own_0, own_s, var_0, var_s, c_e, bin_e, cmp_e, tst_e, tru_b, tup_e, cons_e, nil_e, lst_e, lim_ok, asD_e, asU_e, asB_e, asL_e, ix_e, lT_e, lD_e, fDat_e, fL_e, bl_e, not_e, and_e, or_e, neg_e, neg_i, call1_e, call_e, if_e, chain_e, sc1_i, sc1_b, add_i, add_t, sub_i, mul_i, mod_i, fdiv_i, shr_i, pow_i, lt_i, le_i, gt_i, ge_i, eq_i, ne_i, ite_or, ite_and, ite_bl, eq_S, ne_S, len_S, ix_S, atI_0, atI_1, atI_2, atI_3, atI_4, atI_5, part_e, partD_i, cut_e, cut_to, cut_from, SX.S_len, isIn_strT, isIn_strL, in_sign, notIn_sign, len_l, len_t, min_i, max_i, er_lstD, itemsL_lstD, itemsL_lst, walk_lst, walk_tup, walk_lstD, walk_str, ix_lstD, l2_e, range1_e, rng1_i, lI_e, fWalk_e, dwalk_l, dwalk_t, dwalk_s, signs_S, htup_e, hcons_e, hnil_e, clr_n, clr_c, isE_e, isEd_r, lcut_e, cutD_to, str_s, ne_bls, ixl_e, ixt_e, ixo_e, S.er, Option.bind_some, Option.bind_none, Option.map_some, Option.map_none, O.opt_some, O.bind_ok, List.length_cons, List.length_nil, List.length_map, List.set_cons_zero, List.set_cons_succ, List.cons_append, List.nil_append, List.map_cons, List.map_nil]) e3]
            simp (disch := first | omega | (simp only [List.length_cons, List.length_nil, List.length_append, List.length_map]; omega) | assumption | decide) only [Int.reduceToNat, Int.reducePow, Nat.reduceAdd, Nat.reducePow, own_0, own_s, var_0, var_s, c_e, bin_e, cmp_e, tst_e, tru_b, tup_e, cons_e, nil_e, lst_e, lim_ok, asD_e, asU_e, asB_e, asL_e, ix_e, lT_e, lD_e, fDat_e, fL_e, bl_e, not_e, and_e, or_e, neg_e, neg_i, call1_e, call_e, if_e, chain_e, sc1_i, sc1_b, add_i, add_t, sub_i, mul_i, mod_i, fdiv_i, shr_i, pow_i, lt_i, le_i, gt_i, ge_i, eq_i, ne_i, ite_or, ite_and, ite_bl, eq_S, ne_S, len_S, ix_S, atI_0, atI_1, atI_2, atI_3, atI_4, atI_5, part_e, partD_i, cut_e, cut_to, cut_from, SX.S_len, isIn_strT, isIn_strL, in_sign, notIn_sign, len_l, len_t, min_i, max_i, er_lstD, itemsL_lstD, itemsL_lst, walk_lst, walk_tup, walk_lstD, walk_str, ix_lstD, l2_e, range1_e, rng1_i, lI_e, fWalk_e, dwalk_l, dwalk_t, dwalk_s, signs_S, htup_e, hcons_e, hnil_e, clr_n, clr_c, isE_e, isEd_r, lcut_e, cutD_to, str_s, ne_bls, ixl_e, ixt_e, ixo_e, S.er, Option.bind_some, Option.bind_none, Option.map_some, Option.map_none, O.opt_some, O.bind_ok, List.length_cons, List.length_nil, List.length_map, List.set_cons_zero, List.set_cons_succ, List.cons_append, List.nil_append, List.map_cons, List.map_nil, hE.2]
            simp
          refine w_if1 (c := false) ?_ (fun h => by cases h) fun _ => by rfl
          have hn : decide (errI (some k) < 0) = false := by simp; exact hE.1
          simp (disch := first | omega | (simp only [List.length_cons, List.length_nil, List.length_append, List.length_map]; omega) | assumption | decide) only [Int.reduceToNat, Int.reducePow, Nat.reduceAdd, Nat.reducePow, own_0, own_s, var_0, var_s, c_e, bin_e, cmp_e, tst_e, tru_b, tup_e, cons_e, nil_e, lst_e, lim_ok, asD_e, asU_e, asB_e, asL_e, ix_e, lT_e, lD_e, fDat_e, fL_e, bl_e, not_e, and_e, or_e, neg_e, neg_i, call1_e, call_e, if_e, chain_e, sc1_i, sc1_b, add_i, add_t, sub_i, mul_i, mod_i, fdiv_i, shr_i, pow_i, lt_i, le_i, gt_i, ge_i, eq_i, ne_i, ite_or, ite_and, ite_bl, eq_S, ne_S, len_S, ix_S, atI_0, atI_1, atI_2, atI_3, atI_4, atI_5, part_e, partD_i, cut_e, cut_to, cut_from, SX.S_len, isIn_strT, isIn_strL, in_sign, notIn_sign, len_l, len_t, min_i, max_i, er_lstD, itemsL_lstD, itemsL_lst, walk_lst, walk_tup, walk_lstD, walk_str, ix_lstD, l2_e, range1_e, rng1_i, lI_e, fWalk_e, dwalk_l, dwalk_t, dwalk_s, signs_S, htup_e, hcons_e, hnil_e, clr_n, clr_c, isE_e, isEd_r, lcut_e, cutD_to, str_s, ne_bls, ixl_e, ixt_e, ixo_e, S.er, Option.bind_some, Option.bind_none, Option.map_some, Option.map_none, O.opt_some, O.bind_ok, List.length_cons, List.length_nil, List.length_map, List.set_cons_zero, List.set_cons_succ, List.cons_append, List.nil_append, List.map_cons, List.map_nil, hn]
          rfl
        | none =>
          obtain ⟨ρ3, e3⟩ := read_eq bs hne hbl hbo hd
          refine w_if (c := false) ?_ (fun h => by cases h) fun _ => w_nx ?_
          · have hn : decide (0 ≤ errI none) = false := by decide
            simp only [and_e]
            rw [show gCmp D.ge (gVar 4) (gC (.int 0)) [some (.dat (.lst (ns.map .int))), some (.dat (.int cell)), some (.dat (.lst (bs.map Bx.d))), some (.dat (T (textOf bs))), some (.dat (.int (errI none))), none, none, none] = some false from rfl]
            rfl
          refine w_if1 (c := false) ?_ (fun h => by cases h) fun _ => by rfl
          simp only [and_e, cmp_e]
          rw [callF_e (ds := [T (textOf bs)]) (by simp (disch := first | omega | (simp only [List.length_cons, List.length_nil, List.length_append, List.length_map]; omega) | assumption | decide) only [Int.reduceToNat, Int.reducePow, Nat.reduceAdd, Nat.reducePow, own_0, own_s, var_0, var_s, c_e, bin_e, cmp_e, tst_e, tru_b, tup_e, cons_e, nil_e, lst_e, lim_ok, asD_e, asU_e, asB_e, asL_e, ix_e, lT_e, lD_e, fDat_e, fL_e, bl_e, not_e, and_e, or_e, neg_e, neg_i, call1_e, call_e, if_e, chain_e, sc1_i, sc1_b, add_i, add_t, sub_i, mul_i, mod_i, fdiv_i, shr_i, pow_i, lt_i, le_i, gt_i, ge_i, eq_i, ne_i, ite_or, ite_and, ite_bl, eq_S, ne_S, len_S, ix_S, atI_0, atI_1, atI_2, atI_3, atI_4, atI_5, part_e, partD_i, cut_e, cut_to, cut_from, SX.S_len, isIn_strT, isIn_strL, in_sign, notIn_sign, len_l, len_t, min_i, max_i, er_lstD, itemsL_lstD, itemsL_lst, walk_lst, walk_tup, walk_lstD, walk_str, ix_lstD, l2_e, range1_e, rng1_i, lI_e, fWalk_e, dwalk_l, dwalk_t, dwalk_s, signs_S, htup_e, hcons_e, hnil_e, clr_n, clr_c, isE_e, isEd_r, lcut_e, cutD_to, str_s, ne_bls, ixl_e, ixt_e, ixo_e, S.er, Option.bind_some, Option.bind_none, Option.map_some, Option.map_none, O.opt_some, O.bind_ok, List.length_cons, List.length_nil, List.length_map, List.set_cons_zero, List.set_cons_succ, List.cons_append, List.nil_append, List.map_cons, List.map_nil]) e3]
          have hp : D.pl 3 (.tup [.lst (bs.map Bx.d), .lst []]) = true := by
            simp only [D.pl, List.all_cons, List.all_nil, List.all_map, Bool.and_true, List.all_eq_true]
            intro b hb
            simp only [Function.comp, Bx.d, D.pl, List.all_cons, List.all_nil, strOk_S (hbo b hb).ok]
            rfl
          have hn : D.nb 3 (.tup [.lst (bs.map Bx.d), .lst []]) = true := by
            simp only [D.nb, List.all_cons, List.all_nil, List.all_map, Bool.and_true, List.all_eq_true]
            intro b hb
            simp only [Function.comp, Bx.d, D.nb, List.all_cons, List.all_nil]
            rfl
          have : Decidable (D.tup [.lst (bs.map Bx.d), .lst []] = D.tup [.lst (bs.map Bx.d), .lst []]) := Classical.propDecidable _
          have e5 := (eq_nb (x := .tup [.lst (bs.map Bx.d), .lst []]) (y := .tup [.lst (bs.map Bx.d), .lst []]) 3 hp hp hn hn).2
          simp (disch := first | omega | (simp only [List.length_cons, List.length_nil, List.length_append, List.length_map]; omega) | assumption | decide) only [Int.reduceToNat, Int.reducePow, Nat.reduceAdd, Nat.reducePow, own_0, own_s, var_0, var_s, c_e, bin_e, cmp_e, tst_e, tru_b, tup_e, cons_e, nil_e, lst_e, lim_ok, asD_e, asU_e, asB_e, asL_e, ix_e, lT_e, lD_e, fDat_e, fL_e, bl_e, not_e, and_e, or_e, neg_e, neg_i, call1_e, call_e, if_e, chain_e, sc1_i, sc1_b, add_i, add_t, sub_i, mul_i, mod_i, fdiv_i, shr_i, pow_i, lt_i, le_i, gt_i, ge_i, eq_i, ne_i, ite_or, ite_and, ite_bl, eq_S, ne_S, len_S, ix_S, atI_0, atI_1, atI_2, atI_3, atI_4, atI_5, part_e, partD_i, cut_e, cut_to, cut_from, SX.S_len, isIn_strT, isIn_strL, in_sign, notIn_sign, len_l, len_t, min_i, max_i, er_lstD, itemsL_lstD, itemsL_lst, walk_lst, walk_tup, walk_lstD, walk_str, ix_lstD, l2_e, range1_e, rng1_i, lI_e, fWalk_e, dwalk_l, dwalk_t, dwalk_s, signs_S, htup_e, hcons_e, hnil_e, clr_n, clr_c, isE_e, isEd_r, lcut_e, cutD_to, str_s, ne_bls, ixl_e, ixt_e, ixo_e, S.er, Option.bind_some, Option.bind_none, Option.map_some, Option.map_none, O.opt_some, O.bind_ok, List.length_cons, List.length_nil, List.length_map, List.set_cons_zero, List.set_cons_succ, List.cons_append, List.nil_append, List.map_cons, List.map_nil, e5]
          simp [tru]
      · rintro ρ rfl
        exact ⟨rfl, rfl⟩
    rintro ρ ⟨_, rfl⟩
    exact w_retD (d := .bl true) (by simp (disch := first | omega | (simp only [List.length_cons, List.length_nil, List.length_append, List.length_map]; omega) | assumption | decide) only [Int.reduceToNat, Int.reducePow, Nat.reduceAdd, Nat.reducePow, own_0, own_s, var_0, var_s, c_e, bin_e, cmp_e, tst_e, tru_b, tup_e, cons_e, nil_e, lst_e, lim_ok, asD_e, asU_e, asB_e, asL_e, ix_e, lT_e, lD_e, fDat_e, fL_e, bl_e, not_e, and_e, or_e, neg_e, neg_i, call1_e, call_e, if_e, chain_e, sc1_i, sc1_b, add_i, add_t, sub_i, mul_i, mod_i, fdiv_i, shr_i, pow_i, lt_i, le_i, gt_i, ge_i, eq_i, ne_i, ite_or, ite_and, ite_bl, eq_S, ne_S, len_S, ix_S, atI_0, atI_1, atI_2, atI_3, atI_4, atI_5, part_e, partD_i, cut_e, cut_to, cut_from, SX.S_len, isIn_strT, isIn_strL, in_sign, notIn_sign, len_l, len_t, min_i, max_i, er_lstD, itemsL_lstD, itemsL_lst, walk_lst, walk_tup, walk_lstD, walk_str, ix_lstD, l2_e, range1_e, rng1_i, lI_e, fWalk_e, dwalk_l, dwalk_t, dwalk_s, signs_S, htup_e, hcons_e, hnil_e, clr_n, clr_c, isE_e, isEd_r, lcut_e, cutD_to, str_s, ne_bls, ixl_e, ixt_e, ixo_e, S.er, Option.bind_some, Option.bind_none, Option.map_some, Option.map_none, O.opt_some, O.bind_ok, List.length_cons, List.length_nil, List.length_map, List.set_cons_zero, List.set_cons_succ, List.cons_append, List.nil_append, List.map_cons, List.map_nil]) rfl
  obtain ⟨s, ρ, e, rfl⟩ := w.ok
  exact ⟨ρ, e⟩

/-! the end: what the top has written -/
theorem all_mk {P : Program} {w : World} {K : PySem.W.Frag} {h : Heap} {mg : Str → Option Value} {fa : Addr} (X : K.In h) (G : h.Ns mainGlobals mg) (hfa : mg "law" = some (.ref fa))
    {a_is_name a_is_plain_number a_number_of a_named a_row_told a_Reading___init__ a_Reading_box_read a_read a_l_law_stir a_l_law_box a_l_law_boxes a_l_law_due a_l_law_refused a_law a_Reading a_Full a_NoBox a_NoForm a_NoMark a_NoMeasure a_NoPlace a_NoRow a_NoSaying a_NoneYet a_NotSeen a_SayError a_TooLong a_Twice : Addr}
    {a_BARRED : Addr} {od_BARRED : Option Addr} {sl_BARRED : Array (Option Value)} {n_BARRED : Nat}
    {t0_BARRED t1_BARRED t2_BARRED t3_BARRED t4_BARRED t5_BARRED t6_BARRED t7_BARRED t8_BARRED : Tok}
    {t_FARTHEST : Tok}
    {t_FIGURES : Tok}
    {t_LETTERS : Tok}
    {t_LONGEST_NAME : Tok}
    {t_LONGEST_NUMBER : Tok}
    {t_MOST_BOXES : Tok}
    {t_MOST_ROWS : Tok}
    {t_MOST_VALUES : Tok}
    {t_WIDEST : Tok}
    {od_is_name an_is_name : Option Addr} {sl_is_name : Array (Option Value)} {oc_is_name kV_is_name dc_is_name pm_is_name cd_is_name ct_is_name : Value}
    {od_is_plain_number an_is_plain_number : Option Addr} {sl_is_plain_number : Array (Option Value)} {oc_is_plain_number kV_is_plain_number dc_is_plain_number pm_is_plain_number cd_is_plain_number ct_is_plain_number : Value}
    {od_number_of an_number_of : Option Addr} {sl_number_of : Array (Option Value)} {oc_number_of kV_number_of dc_number_of pm_number_of cd_number_of ct_number_of : Value}
    {od_named an_named : Option Addr} {sl_named : Array (Option Value)} {oc_named kV_named dc_named pm_named cd_named ct_named : Value}
    {od_row_told an_row_told : Option Addr} {sl_row_told : Array (Option Value)} {oc_row_told kV_row_told dc_row_told pm_row_told cd_row_told ct_row_told : Value}
    {od_Reading___init__ an_Reading___init__ : Option Addr} {sl_Reading___init__ : Array (Option Value)} {oc_Reading___init__ kV_Reading___init__ dc_Reading___init__ pm_Reading___init__ cd_Reading___init__ ct_Reading___init__ : Value}
    {od_Reading_box_read an_Reading_box_read : Option Addr} {sl_Reading_box_read : Array (Option Value)} {oc_Reading_box_read kV_Reading_box_read dc_Reading_box_read pm_Reading_box_read cd_Reading_box_read ct_Reading_box_read : Value}
    {od_read an_read : Option Addr} {sl_read : Array (Option Value)} {oc_read kV_read dc_read pm_read cd_read ct_read : Value}
    {od_l_law_stir an_l_law_stir : Option Addr} {sl_l_law_stir : Array (Option Value)} {oc_l_law_stir kV_l_law_stir dc_l_law_stir pm_l_law_stir cd_l_law_stir ct_l_law_stir : Value}
    {od_l_law_box an_l_law_box : Option Addr} {sl_l_law_box : Array (Option Value)} {oc_l_law_box kV_l_law_box dc_l_law_box pm_l_law_box cd_l_law_box ct_l_law_box : Value}
    {od_l_law_boxes an_l_law_boxes : Option Addr} {sl_l_law_boxes : Array (Option Value)} {oc_l_law_boxes kV_l_law_boxes dc_l_law_boxes pm_l_law_boxes cd_l_law_boxes ct_l_law_boxes : Value}
    {od_l_law_due an_l_law_due : Option Addr} {sl_l_law_due : Array (Option Value)} {oc_l_law_due kV_l_law_due dc_l_law_due pm_l_law_due cd_l_law_due ct_l_law_due : Value}
    {od_l_law_refused an_l_law_refused : Option Addr} {sl_l_law_refused : Array (Option Value)} {oc_l_law_refused kV_l_law_refused dc_l_law_refused pm_l_law_refused cd_l_law_refused ct_l_law_refused : Value}
    {od_law an_law : Option Addr} {sl_law : Array (Option Value)} {oc_law kV_law dc_law pm_law cd_law ct_law : Value}
    (z_ValueError : PySem.W.nsIn K mainGlobals "ValueError" = some none)
    (z_int : PySem.W.nsIn K mainGlobals "int" = some none)
    (z_isinstance : PySem.W.nsIn K mainGlobals "isinstance" = some none)
    (z_len : PySem.W.nsIn K mainGlobals "len" = some none)
    (z_max : PySem.W.nsIn K mainGlobals "max" = some none)
    (z_min : PySem.W.nsIn K mainGlobals "min" = some none)
    (z_range : PySem.W.nsIn K mainGlobals "range" = some none)
    (z_str : PySem.W.nsIn K mainGlobals "str" = some none)
    (v_BARRED : PySem.W.nsIn K mainGlobals "BARRED" = some (some (.ref a_BARRED)))
    (w_BARRED : K.lookup a_BARRED = some ⟨.type "tuple", od_BARRED, .seq #[.str "box" t0_BARRED, .str "mark" t1_BARRED, .str "ask" t2_BARRED, .str "put" t3_BARRED, .str "go" t4_BARRED, .str "if" t5_BARRED, .str "stop" t6_BARRED, .str "in" t7_BARRED, .str "not" t8_BARRED] n_BARRED, sl_BARRED⟩)
    (v_FARTHEST : PySem.W.nsIn K mainGlobals "FARTHEST" = some (some (.int 99 t_FARTHEST)))
    (v_FIGURES : PySem.W.nsIn K mainGlobals "FIGURES" = some (some (.str "0123456789" t_FIGURES)))
    (v_LETTERS : PySem.W.nsIn K mainGlobals "LETTERS" = some (some (.str "abcdefghijklmnopqrstuvwxyz" t_LETTERS)))
    (v_LONGEST_NAME : PySem.W.nsIn K mainGlobals "LONGEST_NAME" = some (some (.int 8 t_LONGEST_NAME)))
    (v_LONGEST_NUMBER : PySem.W.nsIn K mainGlobals "LONGEST_NUMBER" = some (some (.int 3 t_LONGEST_NUMBER)))
    (v_MOST_BOXES : PySem.W.nsIn K mainGlobals "MOST_BOXES" = some (some (.int 4 t_MOST_BOXES)))
    (v_MOST_ROWS : PySem.W.nsIn K mainGlobals "MOST_ROWS" = some (some (.int 60 t_MOST_ROWS)))
    (v_MOST_VALUES : PySem.W.nsIn K mainGlobals "MOST_VALUES" = some (some (.int 400 t_MOST_VALUES)))
    (v_WIDEST : PySem.W.nsIn K mainGlobals "WIDEST" = some (some (.int 19 t_WIDEST)))
    (c_Reading : PySem.W.nsIn K mainGlobals "Reading" = some (some (.ref a_Reading)))
    (pg_Reading : PySem.W.plainGet K a_Reading Str.empty = true)
    (hd_Reading : PySem.W.hasDictIn K a_Reading = true)
    (po_Reading : PySem.W.plainOver K a_Reading = true)
    (sa_Reading : PySem.W.findIn K (.ref a_Reading) "__setattr__" = some (some (.builtin "object.__setattr__")))
    (mk_Reading : PySem.W.makesIn K a_Reading = true)
    (kp_Reading : PySem.W.keepIn K (.ref a_Reading) = true)
    (n_Reading_boxes : PySem.W.findIn K (.ref a_Reading) "boxes" = some none)
    (n_Reading_many : PySem.W.findIn K (.ref a_Reading) "many" = some none)
    (n_Reading_marks : PySem.W.findIn K (.ref a_Reading) "marks" = some none)
    (n_Reading_names : PySem.W.findIn K (.ref a_Reading) "names" = some none)
    (n_Reading_told : PySem.W.findIn K (.ref a_Reading) "told" = some none)
    (a_is_name_ : PySem.W.nsIn K mainGlobals "is_name" = some (some (.ref a_is_name)))
    (l_is_name : K.lookup a_is_name = some ⟨oc_is_name, od_is_name, .func (PySem.W.fnOf "is_name" "is_name" (defArgs st_is_name) (defBody st_is_name) (defScope st_is_name) .none kV_is_name dc_is_name pm_is_name an_is_name cd_is_name ct_is_name), sl_is_name⟩)
    (d_is_name : PySem.W.codeIn K cd_is_name "is_name" = true)
    (k_is_name : PySem.W.keepIn K (.ref a_is_name) = true)
    (a_is_plain_number_ : PySem.W.nsIn K mainGlobals "is_plain_number" = some (some (.ref a_is_plain_number)))
    (l_is_plain_number : K.lookup a_is_plain_number = some ⟨oc_is_plain_number, od_is_plain_number, .func (PySem.W.fnOf "is_plain_number" "is_plain_number" (defArgs st_is_plain_number) (defBody st_is_plain_number) (defScope st_is_plain_number) .none kV_is_plain_number dc_is_plain_number pm_is_plain_number an_is_plain_number cd_is_plain_number ct_is_plain_number), sl_is_plain_number⟩)
    (d_is_plain_number : PySem.W.codeIn K cd_is_plain_number "is_plain_number" = true)
    (k_is_plain_number : PySem.W.keepIn K (.ref a_is_plain_number) = true)
    (a_number_of_ : PySem.W.nsIn K mainGlobals "number_of" = some (some (.ref a_number_of)))
    (l_number_of : K.lookup a_number_of = some ⟨oc_number_of, od_number_of, .func (PySem.W.fnOf "number_of" "number_of" (defArgs st_number_of) (defBody st_number_of) (defScope st_number_of) .none kV_number_of dc_number_of pm_number_of an_number_of cd_number_of ct_number_of), sl_number_of⟩)
    (d_number_of : PySem.W.codeIn K cd_number_of "number_of" = true)
    (k_number_of : PySem.W.keepIn K (.ref a_number_of) = true)
    (a_named_ : PySem.W.nsIn K mainGlobals "named" = some (some (.ref a_named)))
    (l_named : K.lookup a_named = some ⟨oc_named, od_named, .func (PySem.W.fnOf "named" "named" (defArgs st_named) (defBody st_named) (defScope st_named) .none kV_named dc_named pm_named an_named cd_named ct_named), sl_named⟩)
    (d_named : PySem.W.codeIn K cd_named "named" = true)
    (k_named : PySem.W.keepIn K (.ref a_named) = true)
    (a_row_told_ : PySem.W.nsIn K mainGlobals "row_told" = some (some (.ref a_row_told)))
    (l_row_told : K.lookup a_row_told = some ⟨oc_row_told, od_row_told, .func (PySem.W.fnOf "row_told" "row_told" (defArgs st_row_told) (defBody st_row_told) (defScope st_row_told) .none kV_row_told dc_row_told pm_row_told an_row_told cd_row_told ct_row_told), sl_row_told⟩)
    (d_row_told : PySem.W.codeIn K cd_row_told "row_told" = true)
    (k_row_told : PySem.W.keepIn K (.ref a_row_told) = true)
    (a_Reading___init___ : PySem.W.findIn K (.ref a_Reading) "__init__" = some (some (.ref a_Reading___init__)))
    (i_Reading___init__ : PySem.W.isFn K (.ref a_Reading___init__) = true)
    (l_Reading___init__ : K.lookup a_Reading___init__ = some ⟨oc_Reading___init__, od_Reading___init__, .func (PySem.W.fnOf "__init__" "Reading.__init__" (defArgs st_Reading___init__) (defBody st_Reading___init__) (defScope st_Reading___init__) .none kV_Reading___init__ dc_Reading___init__ pm_Reading___init__ an_Reading___init__ cd_Reading___init__ ct_Reading___init__), sl_Reading___init__⟩)
    (d_Reading___init__ : PySem.W.codeIn K cd_Reading___init__ "Reading.__init__" = true)
    (k_Reading___init__ : PySem.W.keepIn K (.ref a_Reading___init__) = true)
    (a_Reading_box_read_ : PySem.W.findIn K (.ref a_Reading) "box_read" = some (some (.ref a_Reading_box_read)))
    (i_Reading_box_read : PySem.W.isFn K (.ref a_Reading_box_read) = true)
    (l_Reading_box_read : K.lookup a_Reading_box_read = some ⟨oc_Reading_box_read, od_Reading_box_read, .func (PySem.W.fnOf "box_read" "Reading.box_read" (defArgs st_Reading_box_read) (defBody st_Reading_box_read) (defScope st_Reading_box_read) .none kV_Reading_box_read dc_Reading_box_read pm_Reading_box_read an_Reading_box_read cd_Reading_box_read ct_Reading_box_read), sl_Reading_box_read⟩)
    (d_Reading_box_read : PySem.W.codeIn K cd_Reading_box_read "Reading.box_read" = true)
    (k_Reading_box_read : PySem.W.keepIn K (.ref a_Reading_box_read) = true)
    (a_read_ : PySem.W.nsIn K mainGlobals "read" = some (some (.ref a_read)))
    (l_read : K.lookup a_read = some ⟨oc_read, od_read, .func (PySem.W.fnOf "read" "read" (defArgs st_read) (defBody st_read) (defScope st_read) .none kV_read dc_read pm_read an_read cd_read ct_read), sl_read⟩)
    (d_read : PySem.W.codeIn K cd_read "read" = true)
    (k_read : PySem.W.keepIn K (.ref a_read) = true)
    (a_l_law_stir_ : PySem.W.nsIn K mainGlobals "_law_stir" = some (some (.ref a_l_law_stir)))
    (l_l_law_stir : K.lookup a_l_law_stir = some ⟨oc_l_law_stir, od_l_law_stir, .func (PySem.W.fnOf "_law_stir" "_law_stir" (defArgs st_l_law_stir) (defBody st_l_law_stir) (defScope st_l_law_stir) .none kV_l_law_stir dc_l_law_stir pm_l_law_stir an_l_law_stir cd_l_law_stir ct_l_law_stir), sl_l_law_stir⟩)
    (d_l_law_stir : PySem.W.codeIn K cd_l_law_stir "_law_stir" = true)
    (k_l_law_stir : PySem.W.keepIn K (.ref a_l_law_stir) = true)
    (a_l_law_box_ : PySem.W.nsIn K mainGlobals "_law_box" = some (some (.ref a_l_law_box)))
    (l_l_law_box : K.lookup a_l_law_box = some ⟨oc_l_law_box, od_l_law_box, .func (PySem.W.fnOf "_law_box" "_law_box" (defArgs st_l_law_box) (defBody st_l_law_box) (defScope st_l_law_box) .none kV_l_law_box dc_l_law_box pm_l_law_box an_l_law_box cd_l_law_box ct_l_law_box), sl_l_law_box⟩)
    (d_l_law_box : PySem.W.codeIn K cd_l_law_box "_law_box" = true)
    (k_l_law_box : PySem.W.keepIn K (.ref a_l_law_box) = true)
    (a_l_law_boxes_ : PySem.W.nsIn K mainGlobals "_law_boxes" = some (some (.ref a_l_law_boxes)))
    (l_l_law_boxes : K.lookup a_l_law_boxes = some ⟨oc_l_law_boxes, od_l_law_boxes, .func (PySem.W.fnOf "_law_boxes" "_law_boxes" (defArgs st_l_law_boxes) (defBody st_l_law_boxes) (defScope st_l_law_boxes) .none kV_l_law_boxes dc_l_law_boxes pm_l_law_boxes an_l_law_boxes cd_l_law_boxes ct_l_law_boxes), sl_l_law_boxes⟩)
    (d_l_law_boxes : PySem.W.codeIn K cd_l_law_boxes "_law_boxes" = true)
    (k_l_law_boxes : PySem.W.keepIn K (.ref a_l_law_boxes) = true)
    (a_l_law_due_ : PySem.W.nsIn K mainGlobals "_law_due" = some (some (.ref a_l_law_due)))
    (l_l_law_due : K.lookup a_l_law_due = some ⟨oc_l_law_due, od_l_law_due, .func (PySem.W.fnOf "_law_due" "_law_due" (defArgs st_l_law_due) (defBody st_l_law_due) (defScope st_l_law_due) .none kV_l_law_due dc_l_law_due pm_l_law_due an_l_law_due cd_l_law_due ct_l_law_due), sl_l_law_due⟩)
    (d_l_law_due : PySem.W.codeIn K cd_l_law_due "_law_due" = true)
    (k_l_law_due : PySem.W.keepIn K (.ref a_l_law_due) = true)
    (a_l_law_refused_ : PySem.W.nsIn K mainGlobals "_law_refused" = some (some (.ref a_l_law_refused)))
    (l_l_law_refused : K.lookup a_l_law_refused = some ⟨oc_l_law_refused, od_l_law_refused, .func (PySem.W.fnOf "_law_refused" "_law_refused" (defArgs st_l_law_refused) (defBody st_l_law_refused) (defScope st_l_law_refused) .none kV_l_law_refused dc_l_law_refused pm_l_law_refused an_l_law_refused cd_l_law_refused ct_l_law_refused), sl_l_law_refused⟩)
    (d_l_law_refused : PySem.W.codeIn K cd_l_law_refused "_law_refused" = true)
    (k_l_law_refused : PySem.W.keepIn K (.ref a_l_law_refused) = true)
    (a_law_ : PySem.W.nsIn K mainGlobals "law" = some (some (.ref a_law)))
    (l_law : K.lookup a_law = some ⟨oc_law, od_law, .func (PySem.W.fnOf "law" "law" (defArgs st_law) (defBody st_law) (defScope st_law) .none kV_law dc_law pm_law an_law cd_law ct_law), sl_law⟩)
    (d_law : PySem.W.codeIn K cd_law "law" = true)
    (k_law : PySem.W.keepIn K (.ref a_law) = true)
    (e_Full : PySem.W.nsIn K mainGlobals "Full" = some (some (.ref a_Full)))
    (e_NoBox : PySem.W.nsIn K mainGlobals "NoBox" = some (some (.ref a_NoBox)))
    (e_NoForm : PySem.W.nsIn K mainGlobals "NoForm" = some (some (.ref a_NoForm)))
    (e_NoMark : PySem.W.nsIn K mainGlobals "NoMark" = some (some (.ref a_NoMark)))
    (e_NoMeasure : PySem.W.nsIn K mainGlobals "NoMeasure" = some (some (.ref a_NoMeasure)))
    (e_NoPlace : PySem.W.nsIn K mainGlobals "NoPlace" = some (some (.ref a_NoPlace)))
    (e_NoRow : PySem.W.nsIn K mainGlobals "NoRow" = some (some (.ref a_NoRow)))
    (e_NoSaying : PySem.W.nsIn K mainGlobals "NoSaying" = some (some (.ref a_NoSaying)))
    (e_NoneYet : PySem.W.nsIn K mainGlobals "NoneYet" = some (some (.ref a_NoneYet)))
    (e_NotSeen : PySem.W.nsIn K mainGlobals "NotSeen" = some (some (.ref a_NotSeen)))
    (e_SayError : PySem.W.nsIn K mainGlobals "SayError" = some (some (.ref a_SayError)))
    (e_TooLong : PySem.W.nsIn K mainGlobals "TooLong" = some (some (.ref a_TooLong)))
    (e_Twice : PySem.W.nsIn K mainGlobals "Twice" = some (some (.ref a_Twice)))
    (ex_Full : PySem.W.excIn K a_Full [.type "ValueError", .type "Exception", .type "BaseException", .type "object"] "ValueError.__new__" = true)
    (ek_Full : PySem.W.keepIn K (.ref a_Full) = true)
    (eb_Full : PySem.W.subIn K (.ref a_Full) (.type "BaseException") = some true)
    (et_Full : PySem.W.typeIn K (.ref a_Full) = some (.type "type"))
    (ex_NoBox : PySem.W.excIn K a_NoBox [.type "ValueError", .type "Exception", .type "BaseException", .type "object"] "ValueError.__new__" = true)
    (ek_NoBox : PySem.W.keepIn K (.ref a_NoBox) = true)
    (eb_NoBox : PySem.W.subIn K (.ref a_NoBox) (.type "BaseException") = some true)
    (et_NoBox : PySem.W.typeIn K (.ref a_NoBox) = some (.type "type"))
    (ex_NoMeasure : PySem.W.excIn K a_NoMeasure [.type "ValueError", .type "Exception", .type "BaseException", .type "object"] "ValueError.__new__" = true)
    (ek_NoMeasure : PySem.W.keepIn K (.ref a_NoMeasure) = true)
    (eb_NoMeasure : PySem.W.subIn K (.ref a_NoMeasure) (.type "BaseException") = some true)
    (et_NoMeasure : PySem.W.typeIn K (.ref a_NoMeasure) = some (.type "type"))
    (ex_NoPlace : PySem.W.excIn K a_NoPlace [.type "ValueError", .type "Exception", .type "BaseException", .type "object"] "ValueError.__new__" = true)
    (ek_NoPlace : PySem.W.keepIn K (.ref a_NoPlace) = true)
    (eb_NoPlace : PySem.W.subIn K (.ref a_NoPlace) (.type "BaseException") = some true)
    (et_NoPlace : PySem.W.typeIn K (.ref a_NoPlace) = some (.type "type"))
    (ex_NoRow : PySem.W.excIn K a_NoRow [.type "ValueError", .type "Exception", .type "BaseException", .type "object"] "ValueError.__new__" = true)
    (ek_NoRow : PySem.W.keepIn K (.ref a_NoRow) = true)
    (eb_NoRow : PySem.W.subIn K (.ref a_NoRow) (.type "BaseException") = some true)
    (et_NoRow : PySem.W.typeIn K (.ref a_NoRow) = some (.type "type"))
    (ex_TooLong : PySem.W.excIn K a_TooLong [.type "ValueError", .type "Exception", .type "BaseException", .type "object"] "ValueError.__new__" = true)
    (ek_TooLong : PySem.W.keepIn K (.ref a_TooLong) = true)
    (eb_TooLong : PySem.W.subIn K (.ref a_TooLong) (.type "BaseException") = some true)
    (et_TooLong : PySem.W.typeIn K (.ref a_TooLong) = some (.type "type"))
    (ex_Twice : PySem.W.excIn K a_Twice [.type "ValueError", .type "Exception", .type "BaseException", .type "object"] "ValueError.__new__" = true)
    (ek_Twice : PySem.W.keepIn K (.ref a_Twice) = true)
    (eb_Twice : PySem.W.subIn K (.ref a_Twice) (.type "BaseException") = some true)
    (et_Twice : PySem.W.typeIn K (.ref a_Twice) = some (.type "type"))
    (sb : PySem.W.subIn K (.ref a_SayError) (.type "BaseException") = some true)
    (si : PySem.W.isClsIn K a_SayError = true)
    (st : PySem.W.typeIn K (.ref a_SayError) = some (.type "type"))
    (xn : PySem.W.specialIn K (.builtin "object.__class__") "__get__" = some (some (.builtin "getset_descriptor.__get__")))
    (xt : PySem.W.takesIn K (.builtin "object.__class__") = some true)
    (xg_Full : PySem.W.findIn K (.ref a_Full) "__getattribute__" = some (some (.builtin "BaseException.__getattribute__")))
    (xk_Full : PySem.W.findIn K (.ref a_Full) "__getattr__" = some none)
    (xd_Full : PySem.W.hasDictIn K a_Full = true)
    (xa_Full : PySem.W.findIn K (.ref a_Full) "__class__" = some (some (.builtin "object.__class__")))
    (xm_Full : PySem.W.mroIn K a_Full (.type "object") = some true)
    (xs_Full : PySem.W.subIn K (.ref a_Full) (.ref a_SayError) = some true)
    (xv_Full : PySem.W.kitOne K (.ref a_Full) (.type "ValueError") = some true)
    (xi_Full_Full : PySem.W.kitOne K (.ref a_Full) (.ref a_Full) = some true)
    (xi_Full_NoBox : PySem.W.kitOne K (.ref a_Full) (.ref a_NoBox) = some false)
    (xi_Full_NoForm : PySem.W.kitOne K (.ref a_Full) (.ref a_NoForm) = some false)
    (xi_Full_NoMark : PySem.W.kitOne K (.ref a_Full) (.ref a_NoMark) = some false)
    (xi_Full_NoMeasure : PySem.W.kitOne K (.ref a_Full) (.ref a_NoMeasure) = some false)
    (xi_Full_NoPlace : PySem.W.kitOne K (.ref a_Full) (.ref a_NoPlace) = some false)
    (xi_Full_NoRow : PySem.W.kitOne K (.ref a_Full) (.ref a_NoRow) = some false)
    (xi_Full_NoSaying : PySem.W.kitOne K (.ref a_Full) (.ref a_NoSaying) = some false)
    (xi_Full_NoneYet : PySem.W.kitOne K (.ref a_Full) (.ref a_NoneYet) = some false)
    (xi_Full_NotSeen : PySem.W.kitOne K (.ref a_Full) (.ref a_NotSeen) = some false)
    (xi_Full_TooLong : PySem.W.kitOne K (.ref a_Full) (.ref a_TooLong) = some false)
    (xi_Full_Twice : PySem.W.kitOne K (.ref a_Full) (.ref a_Twice) = some false)
    (xg_NoMeasure : PySem.W.findIn K (.ref a_NoMeasure) "__getattribute__" = some (some (.builtin "BaseException.__getattribute__")))
    (xk_NoMeasure : PySem.W.findIn K (.ref a_NoMeasure) "__getattr__" = some none)
    (xd_NoMeasure : PySem.W.hasDictIn K a_NoMeasure = true)
    (xa_NoMeasure : PySem.W.findIn K (.ref a_NoMeasure) "__class__" = some (some (.builtin "object.__class__")))
    (xm_NoMeasure : PySem.W.mroIn K a_NoMeasure (.type "object") = some true)
    (xs_NoMeasure : PySem.W.subIn K (.ref a_NoMeasure) (.ref a_SayError) = some true)
    (xv_NoMeasure : PySem.W.kitOne K (.ref a_NoMeasure) (.type "ValueError") = some true)
    (xi_NoMeasure_Full : PySem.W.kitOne K (.ref a_NoMeasure) (.ref a_Full) = some false)
    (xi_NoMeasure_NoBox : PySem.W.kitOne K (.ref a_NoMeasure) (.ref a_NoBox) = some false)
    (xi_NoMeasure_NoForm : PySem.W.kitOne K (.ref a_NoMeasure) (.ref a_NoForm) = some false)
    (xi_NoMeasure_NoMark : PySem.W.kitOne K (.ref a_NoMeasure) (.ref a_NoMark) = some false)
    (xi_NoMeasure_NoMeasure : PySem.W.kitOne K (.ref a_NoMeasure) (.ref a_NoMeasure) = some true)
    (xi_NoMeasure_NoPlace : PySem.W.kitOne K (.ref a_NoMeasure) (.ref a_NoPlace) = some false)
    (xi_NoMeasure_NoRow : PySem.W.kitOne K (.ref a_NoMeasure) (.ref a_NoRow) = some false)
    (xi_NoMeasure_NoSaying : PySem.W.kitOne K (.ref a_NoMeasure) (.ref a_NoSaying) = some false)
    (xi_NoMeasure_NoneYet : PySem.W.kitOne K (.ref a_NoMeasure) (.ref a_NoneYet) = some false)
    (xi_NoMeasure_NotSeen : PySem.W.kitOne K (.ref a_NoMeasure) (.ref a_NotSeen) = some false)
    (xi_NoMeasure_TooLong : PySem.W.kitOne K (.ref a_NoMeasure) (.ref a_TooLong) = some false)
    (xi_NoMeasure_Twice : PySem.W.kitOne K (.ref a_NoMeasure) (.ref a_Twice) = some false)
    (xg_Twice : PySem.W.findIn K (.ref a_Twice) "__getattribute__" = some (some (.builtin "BaseException.__getattribute__")))
    (xk_Twice : PySem.W.findIn K (.ref a_Twice) "__getattr__" = some none)
    (xd_Twice : PySem.W.hasDictIn K a_Twice = true)
    (xa_Twice : PySem.W.findIn K (.ref a_Twice) "__class__" = some (some (.builtin "object.__class__")))
    (xm_Twice : PySem.W.mroIn K a_Twice (.type "object") = some true)
    (xs_Twice : PySem.W.subIn K (.ref a_Twice) (.ref a_SayError) = some true)
    (xv_Twice : PySem.W.kitOne K (.ref a_Twice) (.type "ValueError") = some true)
    (xi_Twice_Full : PySem.W.kitOne K (.ref a_Twice) (.ref a_Full) = some false)
    (xi_Twice_NoBox : PySem.W.kitOne K (.ref a_Twice) (.ref a_NoBox) = some false)
    (xi_Twice_NoForm : PySem.W.kitOne K (.ref a_Twice) (.ref a_NoForm) = some false)
    (xi_Twice_NoMark : PySem.W.kitOne K (.ref a_Twice) (.ref a_NoMark) = some false)
    (xi_Twice_NoMeasure : PySem.W.kitOne K (.ref a_Twice) (.ref a_NoMeasure) = some false)
    (xi_Twice_NoPlace : PySem.W.kitOne K (.ref a_Twice) (.ref a_NoPlace) = some false)
    (xi_Twice_NoRow : PySem.W.kitOne K (.ref a_Twice) (.ref a_NoRow) = some false)
    (xi_Twice_NoSaying : PySem.W.kitOne K (.ref a_Twice) (.ref a_NoSaying) = some false)
    (xi_Twice_NoneYet : PySem.W.kitOne K (.ref a_Twice) (.ref a_NoneYet) = some false)
    (xi_Twice_NotSeen : PySem.W.kitOne K (.ref a_Twice) (.ref a_NotSeen) = some false)
    (xi_Twice_TooLong : PySem.W.kitOne K (.ref a_Twice) (.ref a_TooLong) = some false)
    (xi_Twice_Twice : PySem.W.kitOne K (.ref a_Twice) (.ref a_Twice) = some true)
    : ∃ fd : FuncData, (∀ (s : Shared) (u : Value), BindsTo s fd ⟨[u], []⟩ [("script", u)]) ∧ ∀ base : Heap, K.In base → base.Ns mainGlobals mg → FnOk P w K mg base (L2.CX P w) 6 fa fd ["script"] (spLaw K) := by
  have e := hfa.symm.trans (PySem.W.mg_of X G a_law_)
  cases e
  have ca0 : ∃ ca : Str → Addr, ca "Reading" = a_Reading ∧ ca "Full" = a_Full ∧ ca "NoBox" = a_NoBox ∧ ca "NoForm" = a_NoForm ∧ ca "NoMark" = a_NoMark ∧ ca "NoMeasure" = a_NoMeasure ∧ ca "NoPlace" = a_NoPlace ∧ ca "NoRow" = a_NoRow ∧ ca "NoSaying" = a_NoSaying ∧ ca "NoneYet" = a_NoneYet ∧ ca "NotSeen" = a_NotSeen ∧ ca "SayError" = a_SayError ∧ ca "TooLong" = a_TooLong ∧ ca "Twice" = a_Twice := ⟨caOf [("Reading", a_Reading), ("Full", a_Full), ("NoBox", a_NoBox), ("NoForm", a_NoForm), ("NoMark", a_NoMark), ("NoMeasure", a_NoMeasure), ("NoPlace", a_NoPlace), ("NoRow", a_NoRow), ("NoSaying", a_NoSaying), ("NoneYet", a_NoneYet), ("NotSeen", a_NotSeen), ("SayError", a_SayError), ("TooLong", a_TooLong), ("Twice", a_Twice)], by rfl, by rfl, by rfl, by rfl, by rfl, by rfl, by rfl, by rfl, by rfl, by rfl, by rfl, by rfl, by rfl, by rfl⟩
  obtain ⟨ca, h_Reading, h_Full, h_NoBox, h_NoForm, h_NoMark, h_NoMeasure, h_NoPlace, h_NoRow, h_NoSaying, h_NoneYet, h_NotSeen, h_SayError, h_TooLong, h_Twice⟩ := ca0
  subst h_Reading h_Full h_NoBox h_NoForm h_NoMark h_NoMeasure h_NoPlace h_NoRow h_NoSaying h_NoneYet h_NotSeen h_SayError h_TooLong h_Twice
  have BI : BIT mg := ⟨PySem.W.mg_none_of X G z_ValueError, PySem.W.mg_none_of X G z_int, PySem.W.mg_none_of X G z_isinstance, PySem.W.mg_none_of X G z_len, PySem.W.mg_none_of X G z_max, PySem.W.mg_none_of X G z_min, PySem.W.mg_none_of X G z_range, PySem.W.mg_none_of X G z_str⟩
  have GL : GLT K mg := ⟨⟨_, PySem.W.mg_of X G v_BARRED, tr_strT (ws := ["box", "mark", "ask", "put", "go", "if", "stop", "in", "not"]) w_BARRED (Nat.le_of_ble_eq_true rfl) (by exact .cons ⟨_, rfl⟩ (.cons ⟨_, rfl⟩ (.cons ⟨_, rfl⟩ (.cons ⟨_, rfl⟩ (.cons ⟨_, rfl⟩ (.cons ⟨_, rfl⟩ (.cons ⟨_, rfl⟩ (.cons ⟨_, rfl⟩ (.cons ⟨_, rfl⟩ (.nil))))))))))⟩, ⟨_, PySem.W.mg_of X G v_FARTHEST⟩, ⟨_, PySem.W.mg_of X G v_FIGURES⟩, ⟨_, PySem.W.mg_of X G v_LETTERS⟩, ⟨_, PySem.W.mg_of X G v_LONGEST_NAME⟩, ⟨_, PySem.W.mg_of X G v_LONGEST_NUMBER⟩, ⟨_, PySem.W.mg_of X G v_MOST_BOXES⟩, ⟨_, PySem.W.mg_of X G v_MOST_ROWS⟩, ⟨_, PySem.W.mg_of X G v_MOST_VALUES⟩, ⟨_, PySem.W.mg_of X G v_WIDEST⟩⟩
  have CK_Reading : CT_Reading K mg ca := ⟨⟨pg_Reading, hd_Reading, po_Reading, sa_Reading⟩, PySem.W.mg_of X G c_Reading, mk_Reading, kp_Reading, n_Reading_boxes, n_Reading_many, n_Reading_marks, n_Reading_names, n_Reading_told⟩
  have XK_Full : ExcAt K mg ca "Full" := ⟨ex_Full, PySem.W.mg_of X G e_Full, ek_Full, eb_Full, et_Full⟩
  have XK_NoBox : ExcAt K mg ca "NoBox" := ⟨ex_NoBox, PySem.W.mg_of X G e_NoBox, ek_NoBox, eb_NoBox, et_NoBox⟩
  have XK_NoMeasure : ExcAt K mg ca "NoMeasure" := ⟨ex_NoMeasure, PySem.W.mg_of X G e_NoMeasure, ek_NoMeasure, eb_NoMeasure, et_NoMeasure⟩
  have XK_NoPlace : ExcAt K mg ca "NoPlace" := ⟨ex_NoPlace, PySem.W.mg_of X G e_NoPlace, ek_NoPlace, eb_NoPlace, et_NoPlace⟩
  have XK_NoRow : ExcAt K mg ca "NoRow" := ⟨ex_NoRow, PySem.W.mg_of X G e_NoRow, ek_NoRow, eb_NoRow, et_NoRow⟩
  have XK_TooLong : ExcAt K mg ca "TooLong" := ⟨ex_TooLong, PySem.W.mg_of X G e_TooLong, ek_TooLong, eb_TooLong, et_TooLong⟩
  have XK_Twice : ExcAt K mg ca "Twice" := ⟨ex_Twice, PySem.W.mg_of X G e_Twice, ek_Twice, eb_Twice, et_Twice⟩
  have TT_l_law_refused : TryT K mg ca ["NoMeasure", "Twice", "Full"] ["Full", "NoBox", "NoForm", "NoMark", "NoMeasure", "NoPlace", "NoRow", "NoSaying", "NoneYet", "NotSeen", "TooLong", "Twice"] := ⟨fm_cons (⟨xg_NoMeasure, xk_NoMeasure, eb_NoMeasure, xd_NoMeasure, xa_NoMeasure, xn, xt, xm_NoMeasure⟩) (fm_cons (⟨xg_Twice, xk_Twice, eb_Twice, xd_Twice, xa_Twice, xn, xt, xm_Twice⟩) (fm_cons (⟨xg_Full, xk_Full, eb_Full, xd_Full, xa_Full, xn, xt, xm_Full⟩) (fm_nil))), fm_cons (exm_of sb si st xs_NoMeasure) (fm_cons (exm_of sb si st xs_Twice) (fm_cons (exm_of sb si st xs_Full) (fm_nil))), fm_cons (fm_cons (xi_NoMeasure_Full) (fm_cons (xi_NoMeasure_NoBox) (fm_cons (xi_NoMeasure_NoForm) (fm_cons (xi_NoMeasure_NoMark) (fm_cons (xi_NoMeasure_NoMeasure) (fm_cons (xi_NoMeasure_NoPlace) (fm_cons (xi_NoMeasure_NoRow) (fm_cons (xi_NoMeasure_NoSaying) (fm_cons (xi_NoMeasure_NoneYet) (fm_cons (xi_NoMeasure_NotSeen) (fm_cons (xi_NoMeasure_TooLong) (fm_cons (xi_NoMeasure_Twice) (fm_nil))))))))))))) (fm_cons (fm_cons (xi_Twice_Full) (fm_cons (xi_Twice_NoBox) (fm_cons (xi_Twice_NoForm) (fm_cons (xi_Twice_NoMark) (fm_cons (xi_Twice_NoMeasure) (fm_cons (xi_Twice_NoPlace) (fm_cons (xi_Twice_NoRow) (fm_cons (xi_Twice_NoSaying) (fm_cons (xi_Twice_NoneYet) (fm_cons (xi_Twice_NotSeen) (fm_cons (xi_Twice_TooLong) (fm_cons (xi_Twice_Twice) (fm_nil))))))))))))) (fm_cons (fm_cons (xi_Full_Full) (fm_cons (xi_Full_NoBox) (fm_cons (xi_Full_NoForm) (fm_cons (xi_Full_NoMark) (fm_cons (xi_Full_NoMeasure) (fm_cons (xi_Full_NoPlace) (fm_cons (xi_Full_NoRow) (fm_cons (xi_Full_NoSaying) (fm_cons (xi_Full_NoneYet) (fm_cons (xi_Full_NotSeen) (fm_cons (xi_Full_TooLong) (fm_cons (xi_Full_Twice) (fm_nil))))))))))))) (fm_nil))), fm_cons (xv_NoMeasure) (fm_cons (xv_Twice) (fm_cons (xv_Full) (fm_nil))), fm_cons (PySem.W.mg_of X G e_Full) (fm_cons (PySem.W.mg_of X G e_NoBox) (fm_cons (PySem.W.mg_of X G e_NoForm) (fm_cons (PySem.W.mg_of X G e_NoMark) (fm_cons (PySem.W.mg_of X G e_NoMeasure) (fm_cons (PySem.W.mg_of X G e_NoPlace) (fm_cons (PySem.W.mg_of X G e_NoRow) (fm_cons (PySem.W.mg_of X G e_NoSaying) (fm_cons (PySem.W.mg_of X G e_NoneYet) (fm_cons (PySem.W.mg_of X G e_NotSeen) (fm_cons (PySem.W.mg_of X G e_TooLong) (fm_cons (PySem.W.mg_of X G e_Twice) (fm_nil)))))))))))), PySem.W.mg_of X G e_SayError⟩
  have FU_is_name := fun_mk (st := st_is_name) l_is_name d_is_name k_is_name
  have B_is_name := FU_is_name.binds (ps := ["word"]) fun _ _ _ _ _ _ us hl => match us, hl with | [_], _ => rfl
  have FU_is_plain_number := fun_mk (st := st_is_plain_number) l_is_plain_number d_is_plain_number k_is_plain_number
  have B_is_plain_number := FU_is_plain_number.binds (ps := ["word"]) fun _ _ _ _ _ _ us hl => match us, hl with | [_], _ => rfl
  have FU_number_of := fun_mk (st := st_number_of) l_number_of d_number_of k_number_of
  have B_number_of := FU_number_of.binds (ps := ["word"]) fun _ _ _ _ _ _ us hl => match us, hl with | [_], _ => rfl
  have FU_named := fun_mk (st := st_named) l_named d_named k_named
  have B_named := FU_named.binds (ps := ["word"]) fun _ _ _ _ _ _ us hl => match us, hl with | [_], _ => rfl
  have FU_row_told := fun_mk (st := st_row_told) l_row_told d_row_told k_row_told
  have B_row_told := FU_row_told.binds (ps := ["row"]) fun _ _ _ _ _ _ us hl => match us, hl with | [_], _ => rfl
  have FU_Reading___init__ := fun_mk (st := st_Reading___init__) l_Reading___init__ d_Reading___init__ k_Reading___init__
  have B_Reading___init__ := FU_Reading___init__.binds (ps := ["self"]) fun _ _ _ _ _ _ us hl => match us, hl with | [_], _ => rfl
  have FU_Reading_box_read := fun_mk (st := st_Reading_box_read) l_Reading_box_read d_Reading_box_read k_Reading_box_read
  have B_Reading_box_read := FU_Reading_box_read.binds (ps := ["self", "name", "low", "high", "first"]) fun _ _ _ _ _ _ us hl => match us, hl with | [_, _, _, _, _], _ => rfl
  have FU_read := fun_mk (st := st_read) l_read d_read k_read
  have B_read := FU_read.binds (ps := ["text"]) fun _ _ _ _ _ _ us hl => match us, hl with | [_], _ => rfl
  have FU_l_law_stir := fun_mk (st := st_l_law_stir) l_l_law_stir d_l_law_stir k_l_law_stir
  have B_l_law_stir := FU_l_law_stir.binds (ps := ["cell", "k"]) fun _ _ _ _ _ _ us hl => match us, hl with | [_, _], _ => rfl
  have FU_l_law_box := fun_mk (st := st_l_law_box) l_l_law_box d_l_law_box k_l_law_box
  have B_l_law_box := FU_l_law_box.binds (ps := ["cell", "k", "sizes"]) fun _ _ _ _ _ _ us hl => match us, hl with | [_, _, _], _ => rfl
  have FU_l_law_boxes := fun_mk (st := st_l_law_boxes) l_l_law_boxes d_l_law_boxes k_l_law_boxes
  have B_l_law_boxes := FU_l_law_boxes.binds (ps := ["cell"]) fun _ _ _ _ _ _ us hl => match us, hl with | [_], _ => rfl
  have FU_l_law_due := fun_mk (st := st_l_law_due) l_l_law_due d_l_law_due k_l_law_due
  have B_l_law_due := FU_l_law_due.binds (ps := ["boxes"]) fun _ _ _ _ _ _ us hl => match us, hl with | [_], _ => rfl
  have FU_l_law_refused := fun_mk (st := st_l_law_refused) l_l_law_refused d_l_law_refused k_l_law_refused
  have B_l_law_refused := FU_l_law_refused.binds (ps := ["text"]) fun _ _ _ _ _ _ us hl => match us, hl with | [_], _ => rfl
  have FU_law := fun_mk (st := st_law) l_law d_law k_law
  have B_law := FU_law.binds (ps := ["script"]) fun _ _ _ _ _ _ us hl => match us, hl with | [_], _ => rfl
  refine ⟨PySem.W.fnOf "law" "law" (defArgs st_law) (defBody st_law) (defScope st_law) .none kV_law dc_law pm_law an_law cd_law ct_law, fun s u => .of_eq rfl, fun base _ _ => ?_⟩
  have G_is_name : DefOk P w K mg base ⟨K, ca⟩ 1 "is_name" "is_name" st_is_name ["word"] [] F_is_name _ _ := ⟨⟨FU_is_name, B_is_name, PySem.W.mg_of X G a_is_name_⟩, ok_is_name (P := P) (w := w) (base := base) (ca := ca) FU_is_name (BI := BI) (GL := GL)⟩
  have G_is_plain_number : DefOk P w K mg base ⟨K, ca⟩ 1 "is_plain_number" "is_plain_number" st_is_plain_number ["word"] [] F_is_plain_number _ _ := ⟨⟨FU_is_plain_number, B_is_plain_number, PySem.W.mg_of X G a_is_plain_number_⟩, ok_is_plain_number (P := P) (w := w) (base := base) (ca := ca) FU_is_plain_number (BI := BI) (GL := GL)⟩
  have G_number_of : DefOk P w K mg base ⟨K, ca⟩ 2 "number_of" "number_of" st_number_of ["word"] [] F_number_of _ _ := ⟨⟨FU_number_of, B_number_of, PySem.W.mg_of X G a_number_of_⟩, ok_number_of (P := P) (w := w) (base := base) (ca := ca) FU_number_of (BI := BI) (XK_NoRow := XK_NoRow) (G_is_plain_number := G_is_plain_number)⟩
  have G_named : DefOk P w K mg base ⟨K, ca⟩ 2 "named" "named" st_named ["word"] [] F_named _ _ := ⟨⟨FU_named, B_named, PySem.W.mg_of X G a_named_⟩, ok_named (P := P) (w := w) (base := base) (ca := ca) FU_named (XK_NoRow := XK_NoRow) (G_is_name := G_is_name)⟩
  have G_row_told : DefOk P w K mg base ⟨K, ca⟩ 3 "row_told" "row_told" st_row_told ["row"] [] F_row_told _ _ := ⟨⟨FU_row_told, B_row_told, PySem.W.mg_of X G a_row_told_⟩, ok_row_told (P := P) (w := w) (base := base) (ca := ca) FU_row_told (BI := BI) (G_named := G_named) (G_number_of := G_number_of)⟩
  have G_Reading___init__ : MethOk P w K mg base ⟨K, ca⟩ 1 (ca "Reading") "__init__" "Reading.__init__" st_Reading___init__ ["self"] [0] F_Reading___init__ _ _ := ⟨FU_Reading___init__, B_Reading___init__, ⟨a_Reading___init___, i_Reading___init__, k_Reading___init__⟩, ok_Reading___init__ (P := P) (w := w) (base := base) (ca := ca) FU_Reading___init__ (CK_Reading := CK_Reading)⟩
  have G_Reading_box_read : MethOk P w K mg base ⟨K, ca⟩ 1 (ca "Reading") "box_read" "Reading.box_read" st_Reading_box_read ["self", "name", "low", "high", "first"] [0] F_Reading_box_read _ _ := ⟨FU_Reading_box_read, B_Reading_box_read, ⟨a_Reading_box_read_, i_Reading_box_read, k_Reading_box_read⟩, ok_Reading_box_read (P := P) (w := w) (base := base) (ca := ca) FU_Reading_box_read (BI := BI) (GL := GL) (CK_Reading := CK_Reading) (XK_Full := XK_Full) (XK_NoMeasure := XK_NoMeasure) (XK_NoPlace := XK_NoPlace) (XK_Twice := XK_Twice)⟩
  have G_read : DefOk P w K mg base ⟨K, ca⟩ 4 "read" "read" st_read ["text"] [] F_read _ _ := ⟨⟨FU_read, B_read, PySem.W.mg_of X G a_read_⟩, ok_read (P := P) (w := w) (base := base) (ca := ca) FU_read (BI := BI) (GL := GL) (CK_Reading := CK_Reading) (XK_NoBox := XK_NoBox) (XK_TooLong := XK_TooLong) (G_Reading___init__ := G_Reading___init__) (G_Reading_box_read := G_Reading_box_read) (G_row_told := G_row_told)⟩
  have G_l_law_stir : DefOk P w K mg base ⟨K, ca⟩ 1 "_law_stir" "_law_stir" st_l_law_stir ["cell", "k"] [] F_l_law_stir _ _ := ⟨⟨FU_l_law_stir, B_l_law_stir, PySem.W.mg_of X G a_l_law_stir_⟩, ok_l_law_stir (P := P) (w := w) (base := base) (ca := ca) FU_l_law_stir ⟩
  have G_l_law_box : DefOk P w K mg base ⟨K, ca⟩ 2 "_law_box" "_law_box" st_l_law_box ["cell", "k", "sizes"] [] F_l_law_box _ _ := ⟨⟨FU_l_law_box, B_l_law_box, PySem.W.mg_of X G a_l_law_box_⟩, ok_l_law_box (P := P) (w := w) (base := base) (ca := ca) FU_l_law_box (BI := BI) (G_l_law_stir := G_l_law_stir)⟩
  have G_l_law_boxes : DefOk P w K mg base ⟨K, ca⟩ 3 "_law_boxes" "_law_boxes" st_l_law_boxes ["cell"] [] F_l_law_boxes _ _ := ⟨⟨FU_l_law_boxes, B_l_law_boxes, PySem.W.mg_of X G a_l_law_boxes_⟩, ok_l_law_boxes (P := P) (w := w) (base := base) (ca := ca) FU_l_law_boxes (BI := BI) (G_l_law_box := G_l_law_box) (G_l_law_stir := G_l_law_stir)⟩
  have G_l_law_due : DefOk P w K mg base ⟨K, ca⟩ 1 "_law_due" "_law_due" st_l_law_due ["boxes"] [] F_l_law_due _ _ := ⟨⟨FU_l_law_due, B_l_law_due, PySem.W.mg_of X G a_l_law_due_⟩, ok_l_law_due (P := P) (w := w) (base := base) (ca := ca) FU_l_law_due (BI := BI)⟩
  have G_l_law_refused : DefOk P w K mg base ⟨K, ca⟩ 5 "_law_refused" "_law_refused" st_l_law_refused ["text"] [] F_l_law_refused _ _ := ⟨⟨FU_l_law_refused, B_l_law_refused, PySem.W.mg_of X G a_l_law_refused_⟩, ok_l_law_refused (P := P) (w := w) (base := base) (ca := ca) FU_l_law_refused (BI := BI) (TT := TT_l_law_refused) (hind := su_ind) (G_read := G_read)⟩
  exact (ok_law (P := P) (w := w) (base := base) (ca := ca) FU_law (BI := BI) (G_l_law_boxes := G_l_law_boxes) (G_l_law_due := G_l_law_due) (G_l_law_refused := G_l_law_refused) (G_read := G_read)).imp (law_sp fun ns _ => law_ok ns)
end Q
open PySem PySem.W PyProof.Rows
set_option maxRecDepth 100000 in
set_option maxHeartbeats 0 in
theorem PySem.Challenge.cw_sayswho_k10_boxes_and_measures_holds : PySem.Challenge.rw_sayswho_k10_boxes_and_measures.Holds := by
  w_on; o_law; k_head; (case hw => w_witness2)
  k_fill
  refine DL.walkDL (l := PySem.Challenge.rw_sayswho_k10_boxes_and_measures) (k := 6) ⟨rfl, by decide, by decide⟩ rfl rfl (fun w h Y => PySem.W.kIn_of Y) ?F
  case F =>
    intro w mg fa h KX G hmg
    refine' Q.all_mk KX G hmg ?z_ValueError ?z_int ?z_isinstance ?z_len ?z_max ?z_min ?z_range ?z_str ?v_BARRED ?w_BARRED ?v_FARTHEST ?v_FIGURES ?v_LETTERS ?v_LONGEST_NAME ?v_LONGEST_NUMBER ?v_MOST_BOXES ?v_MOST_ROWS ?v_MOST_VALUES ?v_WIDEST ?c_Reading ?pg_Reading ?hd_Reading ?po_Reading ?sa_Reading ?mk_Reading ?kp_Reading ?n_Reading_boxes ?n_Reading_many ?n_Reading_marks ?n_Reading_names ?n_Reading_told ?a_is_name_ ?l_is_name ?d_is_name ?k_is_name ?a_is_plain_number_ ?l_is_plain_number ?d_is_plain_number ?k_is_plain_number ?a_number_of_ ?l_number_of ?d_number_of ?k_number_of ?a_named_ ?l_named ?d_named ?k_named ?a_row_told_ ?l_row_told ?d_row_told ?k_row_told ?a_Reading___init___ ?i_Reading___init__ ?l_Reading___init__ ?d_Reading___init__ ?k_Reading___init__ ?a_Reading_box_read_ ?i_Reading_box_read ?l_Reading_box_read ?d_Reading_box_read ?k_Reading_box_read ?a_read_ ?l_read ?d_read ?k_read ?a_l_law_stir_ ?l_l_law_stir ?d_l_law_stir ?k_l_law_stir ?a_l_law_box_ ?l_l_law_box ?d_l_law_box ?k_l_law_box ?a_l_law_boxes_ ?l_l_law_boxes ?d_l_law_boxes ?k_l_law_boxes ?a_l_law_due_ ?l_l_law_due ?d_l_law_due ?k_l_law_due ?a_l_law_refused_ ?l_l_law_refused ?d_l_law_refused ?k_l_law_refused ?a_law_ ?l_law ?d_law ?k_law ?e_Full ?e_NoBox ?e_NoForm ?e_NoMark ?e_NoMeasure ?e_NoPlace ?e_NoRow ?e_NoSaying ?e_NoneYet ?e_NotSeen ?e_SayError ?e_TooLong ?e_Twice ?ex_Full ?ek_Full ?eb_Full ?et_Full ?ex_NoBox ?ek_NoBox ?eb_NoBox ?et_NoBox ?ex_NoMeasure ?ek_NoMeasure ?eb_NoMeasure ?et_NoMeasure ?ex_NoPlace ?ek_NoPlace ?eb_NoPlace ?et_NoPlace ?ex_NoRow ?ek_NoRow ?eb_NoRow ?et_NoRow ?ex_TooLong ?ek_TooLong ?eb_TooLong ?et_TooLong ?ex_Twice ?ek_Twice ?eb_Twice ?et_Twice ?sb ?si ?st ?xn ?xt ?xg_Full ?xk_Full ?xd_Full ?xa_Full ?xm_Full ?xs_Full ?xv_Full ?xi_Full_Full ?xi_Full_NoBox ?xi_Full_NoForm ?xi_Full_NoMark ?xi_Full_NoMeasure ?xi_Full_NoPlace ?xi_Full_NoRow ?xi_Full_NoSaying ?xi_Full_NoneYet ?xi_Full_NotSeen ?xi_Full_TooLong ?xi_Full_Twice ?xg_NoMeasure ?xk_NoMeasure ?xd_NoMeasure ?xa_NoMeasure ?xm_NoMeasure ?xs_NoMeasure ?xv_NoMeasure ?xi_NoMeasure_Full ?xi_NoMeasure_NoBox ?xi_NoMeasure_NoForm ?xi_NoMeasure_NoMark ?xi_NoMeasure_NoMeasure ?xi_NoMeasure_NoPlace ?xi_NoMeasure_NoRow ?xi_NoMeasure_NoSaying ?xi_NoMeasure_NoneYet ?xi_NoMeasure_NotSeen ?xi_NoMeasure_TooLong ?xi_NoMeasure_Twice ?xg_Twice ?xk_Twice ?xd_Twice ?xa_Twice ?xm_Twice ?xs_Twice ?xv_Twice ?xi_Twice_Full ?xi_Twice_NoBox ?xi_Twice_NoForm ?xi_Twice_NoMark ?xi_Twice_NoMeasure ?xi_Twice_NoPlace ?xi_Twice_NoRow ?xi_Twice_NoSaying ?xi_Twice_NoneYet ?xi_Twice_NotSeen ?xi_Twice_TooLong ?xi_Twice_Twice
    (case z_ValueError => k_is)
    (case z_int => k_is)
    (case z_isinstance => k_is)
    (case z_len => k_is)
    (case z_max => k_is)
    (case z_min => k_is)
    (case z_range => k_is)
    (case z_str => k_is)
    (case v_BARRED => k_is)
    (case w_BARRED => k_is)
    (case v_FARTHEST => k_is)
    (case v_FIGURES => k_is)
    (case v_LETTERS => k_is)
    (case v_LONGEST_NAME => k_is)
    (case v_LONGEST_NUMBER => k_is)
    (case v_MOST_BOXES => k_is)
    (case v_MOST_ROWS => k_is)
    (case v_MOST_VALUES => k_is)
    (case v_WIDEST => k_is)
    (case c_Reading => k_is)
    (case pg_Reading => k_is)
    (case hd_Reading => k_is)
    (case po_Reading => k_is)
    (case sa_Reading => k_is)
    (case mk_Reading => k_is)
    (case kp_Reading => k_is)
    (case n_Reading_boxes => k_is)
    (case n_Reading_many => k_is)
    (case n_Reading_marks => k_is)
    (case n_Reading_names => k_is)
    (case n_Reading_told => k_is)
    (case a_is_name_ => k_is)
    (case l_is_name => k_is)
    (case d_is_name => k_is)
    (case k_is_name => k_is)
    (case a_is_plain_number_ => k_is)
    (case l_is_plain_number => k_is)
    (case d_is_plain_number => k_is)
    (case k_is_plain_number => k_is)
    (case a_number_of_ => k_is)
    (case l_number_of => k_is)
    (case d_number_of => k_is)
    (case k_number_of => k_is)
    (case a_named_ => k_is)
    (case l_named => k_is)
    (case d_named => k_is)
    (case k_named => k_is)
    (case a_row_told_ => k_is)
    (case l_row_told => k_is)
    (case d_row_told => k_is)
    (case k_row_told => k_is)
    (case a_Reading___init___ => k_is)
    (case i_Reading___init__ => k_is)
    (case l_Reading___init__ => k_is)
    (case d_Reading___init__ => k_is)
    (case k_Reading___init__ => k_is)
    (case a_Reading_box_read_ => k_is)
    (case i_Reading_box_read => k_is)
    (case l_Reading_box_read => k_is)
    (case d_Reading_box_read => k_is)
    (case k_Reading_box_read => k_is)
    (case a_read_ => k_is)
    (case l_read => k_is)
    (case d_read => k_is)
    (case k_read => k_is)
    (case a_l_law_stir_ => k_is)
    (case l_l_law_stir => k_is)
    (case d_l_law_stir => k_is)
    (case k_l_law_stir => k_is)
    (case a_l_law_box_ => k_is)
    (case l_l_law_box => k_is)
    (case d_l_law_box => k_is)
    (case k_l_law_box => k_is)
    (case a_l_law_boxes_ => k_is)
    (case l_l_law_boxes => k_is)
    (case d_l_law_boxes => k_is)
    (case k_l_law_boxes => k_is)
    (case a_l_law_due_ => k_is)
    (case l_l_law_due => k_is)
    (case d_l_law_due => k_is)
    (case k_l_law_due => k_is)
    (case a_l_law_refused_ => k_is)
    (case l_l_law_refused => k_is)
    (case d_l_law_refused => k_is)
    (case k_l_law_refused => k_is)
    (case a_law_ => k_is)
    (case l_law => k_is)
    (case d_law => k_is)
    (case k_law => k_is)
    (case e_Full => k_is)
    (case e_NoBox => k_is)
    (case e_NoForm => k_is)
    (case e_NoMark => k_is)
    (case e_NoMeasure => k_is)
    (case e_NoPlace => k_is)
    (case e_NoRow => k_is)
    (case e_NoSaying => k_is)
    (case e_NoneYet => k_is)
    (case e_NotSeen => k_is)
    (case e_SayError => k_is)
    (case e_TooLong => k_is)
    (case e_Twice => k_is)
    (case ex_Full => k_exc)
    (case ek_Full => k_is)
    (case eb_Full => k_is)
    (case et_Full => k_is)
    (case ex_NoBox => k_exc)
    (case ek_NoBox => k_is)
    (case eb_NoBox => k_is)
    (case et_NoBox => k_is)
    (case ex_NoMeasure => k_exc)
    (case ek_NoMeasure => k_is)
    (case eb_NoMeasure => k_is)
    (case et_NoMeasure => k_is)
    (case ex_NoPlace => k_exc)
    (case ek_NoPlace => k_is)
    (case eb_NoPlace => k_is)
    (case et_NoPlace => k_is)
    (case ex_NoRow => k_exc)
    (case ek_NoRow => k_is)
    (case eb_NoRow => k_is)
    (case et_NoRow => k_is)
    (case ex_TooLong => k_exc)
    (case ek_TooLong => k_is)
    (case eb_TooLong => k_is)
    (case et_TooLong => k_is)
    (case ex_Twice => k_exc)
    (case ek_Twice => k_is)
    (case eb_Twice => k_is)
    (case et_Twice => k_is)
    (case sb => k_is)
    (case si => k_is)
    (case st => k_is)
    (case xn => k_is)
    (case xt => k_is)
    (case xg_Full => k_is)
    (case xk_Full => k_is)
    (case xd_Full => k_is)
    (case xa_Full => k_is)
    (case xm_Full => k_is)
    (case xs_Full => k_is)
    (case xv_Full => kit_is)
    (case xi_Full_Full => kit_is)
    (case xi_Full_NoBox => kit_is)
    (case xi_Full_NoForm => kit_is)
    (case xi_Full_NoMark => kit_is)
    (case xi_Full_NoMeasure => kit_is)
    (case xi_Full_NoPlace => kit_is)
    (case xi_Full_NoRow => kit_is)
    (case xi_Full_NoSaying => kit_is)
    (case xi_Full_NoneYet => kit_is)
    (case xi_Full_NotSeen => kit_is)
    (case xi_Full_TooLong => kit_is)
    (case xi_Full_Twice => kit_is)
    (case xg_NoMeasure => k_is)
    (case xk_NoMeasure => k_is)
    (case xd_NoMeasure => k_is)
    (case xa_NoMeasure => k_is)
    (case xm_NoMeasure => k_is)
    (case xs_NoMeasure => k_is)
    (case xv_NoMeasure => kit_is)
    (case xi_NoMeasure_Full => kit_is)
    (case xi_NoMeasure_NoBox => kit_is)
    (case xi_NoMeasure_NoForm => kit_is)
    (case xi_NoMeasure_NoMark => kit_is)
    (case xi_NoMeasure_NoMeasure => kit_is)
    (case xi_NoMeasure_NoPlace => kit_is)
    (case xi_NoMeasure_NoRow => kit_is)
    (case xi_NoMeasure_NoSaying => kit_is)
    (case xi_NoMeasure_NoneYet => kit_is)
    (case xi_NoMeasure_NotSeen => kit_is)
    (case xi_NoMeasure_TooLong => kit_is)
    (case xi_NoMeasure_Twice => kit_is)
    (case xg_Twice => k_is)
    (case xk_Twice => k_is)
    (case xd_Twice => k_is)
    (case xa_Twice => k_is)
    (case xm_Twice => k_is)
    (case xs_Twice => k_is)
    (case xv_Twice => kit_is)
    (case xi_Twice_Full => kit_is)
    (case xi_Twice_NoBox => kit_is)
    (case xi_Twice_NoForm => kit_is)
    (case xi_Twice_NoMark => kit_is)
    (case xi_Twice_NoMeasure => kit_is)
    (case xi_Twice_NoPlace => kit_is)
    (case xi_Twice_NoRow => kit_is)
    (case xi_Twice_NoSaying => kit_is)
    (case xi_Twice_NoneYet => kit_is)
    (case xi_Twice_NotSeen => kit_is)
    (case xi_Twice_TooLong => kit_is)
    (case xi_Twice_Twice => kit_is)
