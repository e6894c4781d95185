import PyProof.Rows.All
import Wide.All
import OpenK.AllK
import Wide.FinOn
import HandS.ForMost
import HandS.WordsExc
import HandS.Defaults
import HandS.StrMore
import HandS.Wide
import HandS.IsInst
import HandS.Style
import HandS.TupAny
import HandS.Text
import HandS.Replace
import HandS.Deep
import KE.DataCmp
import HandS.Head0
import HandS.Head1
import HandS.Head2
import HandS.HeadEnd
import HandS.HeadHook1
import HandS.HeadHook2
import KE.KStateDown
import HandS.Base
import HandS.Call
import HandS.Ends
import HandS.More
import HandS.Words
import PySem.Challenge.RW_wholefree_k46_whole_rows_of_commutators
set_option Elab.async false
set_option linter.all false
set_option maxRecDepth 100000
set_option maxHeartbeats 1000000
namespace DN
open PySem PySem.Spec PyProof.Rows L2

/-- plain data -/
inductive D where
  | non | bl (b : Bool) | int (i : Int) | str (s : List Nat) | tup (ds : List D) | lst (ds : List D) | dic (ks vs : List D) | fls (ds : List D)

abbrev Hp := L2.Hp
abbrev AS := Addr → Prop

def keyD : Key → D
  | .inl i => .int i
  | .inr x => .str x.cps.toList
def IsDc (H : Hp) (a : Addr) (ks : List D) (xs : List V) : Prop :=
  (∃ kvs : List (Key × V), H a = some (.dK kvs) ∧ ks = kvs.map (fun p => keyD p.1) ∧ xs = kvs.map (·.2)) ∨
  (∃ kvs : List (List Key × V), H a = some (.dT kvs) ∧ ks = kvs.map (fun p => .tup (p.1.map keyD)) ∧ xs = kvs.map (·.2))

section
variable (K : PySem.W.Frag)
mutual
def Rz (F : Hp) : V → D → Prop
  | v, .non => v = .non
  | v, .bl b => v = .bl b
  | v, .int i => v = .int i
  | v, .str s => v = .str ⟨s.toArray⟩
  | v, .tup ds => ∃ a xs, v = .ref a ∧ SqT K F a xs ∧ Rzs F xs ds
  | v, .lst ds => ∃ a xs, v = .ref a ∧ F a = some (.lst xs) ∧ Rzs F xs ds
  | v, .dic ks vs => ∃ a xs, v = .ref a ∧ IsDc F a ks xs ∧ Rzs F xs vs
  | v, .fls ds => ∃ a xs, v = .ref a ∧ SqL K F a xs ∧ Rzs F xs ds
def Rzs (F : Hp) : List V → List D → Prop
  | xs, [] => xs = []
  | xs, d :: ds => ∃ x r, xs = x :: r ∧ Rz F x d ∧ Rzs F r ds
end
end

def Le (F H : Hp) : Prop := ∀ a o, F a = some o → H a = some o
theorem Le.refl (F : Hp) : Le F F := fun _ _ h => h
theorem Le.trans {F G H : Hp} (a : Le F G) (b : Le G H) : Le F H := fun x o h => b x o (a x o h)
theorem Le.new {H : Hp} {p : Addr} {o : HO} (h : H p = none) : Le H (upd H p o) := fun a u e => by
  rw [upd_ne (ne_of_none e h)]; exact e
theorem Le.none {F H : Hp} (e : Le F H) {p : Addr} (h : H p = none) : F p = none := by
  cases q : F p with
  | none => rfl
  | some o => rw [e p o q] at h; cases h
theorem Le.upd {F H : Hp} (e : Le F H) {p : Addr} {o : HO} : Le (upd F p o) (upd H p o) := fun a u h => by
  by_cases q : a = p
  · subst q; rw [upd_same] at h ⊢; exact h
  · rw [upd_ne q] at h ⊢; exact e a u h

section
variable {K : PySem.W.Frag} {F F' H H' : Hp}
theorem rd_le (e : Le F H) {a : Addr} {u : HO} (h : Rd F a u) : Rd H a u := by
  rcases h with h | ⟨o, h⟩
  · exact .inl (e _ _ h)
  · exact .inr ⟨o, e _ _ h⟩
theorem sqL_le (e : Le F H) {a : Addr} {xs : List V} (h : SqL K F a xs) : SqL K H a xs := h.imp (rd_le e) id
theorem sqT_le (e : Le F H) {a : Addr} {xs : List V} (h : SqT K F a xs) : SqT K H a xs := h.imp (rd_le e) id
theorem isDc_le (e : Le F H) {a : Addr} {ks : List D} {xs : List V} (h : IsDc F a ks xs) : IsDc H a ks xs := by
  rcases h with ⟨kvs, h, r⟩ | ⟨kvs, h, r⟩
  · exact .inl ⟨kvs, e _ _ h, r⟩
  · exact .inr ⟨kvs, e _ _ h, r⟩
mutual
theorem Rz.mono (e : Le F H) : ∀ (d : D) (v : V), Rz K F v d → Rz K H v d
  | .non, v, h => h
  | .bl b, v, h => h
  | .int i, v, h => h
  | .str s, v, h => h
  | .tup ds, v, h => by
    obtain ⟨a, xs, h1, h2, h3⟩ := h
    exact ⟨a, xs, h1, sqT_le e h2, Rzs.mono e ds xs h3⟩
  | .lst ds, v, h => by
    obtain ⟨a, xs, h1, h2, h3⟩ := h
    exact ⟨a, xs, h1, e _ _ h2, Rzs.mono e ds xs h3⟩
  | .fls ds, v, h => by
    obtain ⟨a, xs, h1, h2, h3⟩ := h
    exact ⟨a, xs, h1, sqL_le e h2, Rzs.mono e ds xs h3⟩
  | .dic ks vs, v, h => by
    obtain ⟨a, xs, h1, h2, h3⟩ := h
    exact ⟨a, xs, h1, isDc_le e h2, Rzs.mono e vs xs h3⟩
theorem Rzs.mono (e : Le F H) : ∀ (ds : List D) (xs : List V), Rzs K F xs ds → Rzs K H xs ds
  | [], xs, h => h
  | d :: ds, xs, h => by
    obtain ⟨x, r, h1, h2, h3⟩ := h
    exact ⟨x, r, h1, Rz.mono e d x h2, Rzs.mono e ds r h3⟩
end
theorem Rzs.len : ∀ {ds : List D} {xs : List V}, Rzs K F xs ds → xs.length = ds.length
  | [], xs, h => by cases (show xs = [] from h); rfl
  | d :: ds, xs, h => by
    obtain ⟨x, r, rfl, _, h3⟩ := h
    simp [Rzs.len h3]
theorem Rzs.get : ∀ {ds : List D} {xs : List V} {i : Nat} {d : D}, Rzs K F xs ds → ds[i]? = some d → ∃ x, xs[i]? = some x ∧ Rz K F x d
  | [], xs, i, d, h, e => by simp at e
  | d0 :: ds, xs, 0, d, h, e => by
    obtain ⟨x, r, rfl, h2, h3⟩ := h
    simp at e; subst e
    exact ⟨x, rfl, h2⟩
  | d0 :: ds, xs, i + 1, d, h, e => by
    obtain ⟨x, r, rfl, h2, h3⟩ := h
    simpa using Rzs.get h3 (by simpa using e)
theorem Rzs.getV : ∀ {ds : List D} {xs : List V} {i : Nat} {x : V}, Rzs K F xs ds → xs[i]? = some x → ∃ d, ds[i]? = some d ∧ Rz K F x d
  | [], xs, i, d, h, e => by cases (show xs = [] from h); simp at e
  | d0 :: ds, xs, 0, d, h, e => by
    obtain ⟨x, r, rfl, h2, h3⟩ := h
    simp at e; subst e
    exact ⟨d0, rfl, h2⟩
  | d0 :: ds, xs, i + 1, d, h, e => by
    obtain ⟨x, r, rfl, h2, h3⟩ := h
    simpa using Rzs.getV h3 (by simpa using e)
theorem Rzs.append : ∀ {ds es : List D} {xs ys : List V}, Rzs K F xs ds → Rzs K F ys es → Rzs K F (xs ++ ys) (ds ++ es)
  | [], es, xs, ys, h, g => by cases (show xs = [] from h); exact g
  | d :: ds, es, xs, ys, h, g => by
    obtain ⟨x, r, rfl, h2, h3⟩ := h
    exact ⟨x, r ++ ys, rfl, h2, Rzs.append h3 g⟩
theorem Rzs.take : ∀ {ds : List D} {xs : List V} (n : Nat), Rzs K F xs ds → Rzs K F (xs.take n) (ds.take n)
  | ds, xs, 0, h => by simp; exact rfl
  | [], xs, n + 1, h => by cases (show xs = [] from h); exact rfl
  | d :: ds, xs, n + 1, h => by
    obtain ⟨x, r, rfl, h2, h3⟩ := h
    exact ⟨x, r.take n, rfl, h2, Rzs.take n h3⟩
theorem Rzs.drop : ∀ {ds : List D} {xs : List V} (n : Nat), Rzs K F xs ds → Rzs K F (xs.drop n) (ds.drop n)
  | ds, xs, 0, h => h
  | [], xs, n + 1, h => by cases (show xs = [] from h); exact rfl
  | d :: ds, xs, n + 1, h => by
    obtain ⟨x, r, rfl, h2, h3⟩ := h
    exact Rzs.drop n h3
theorem Rzs.set : ∀ {ds : List D} {xs : List V} (n : Nat) {x : V} {d : D}, Rzs K F xs ds → Rz K F x d → Rzs K F (xs.set n x) (ds.set n d)
  | [], xs, n, x, d, h, g => by cases (show xs = [] from h); exact rfl
  | e :: ds, xs, 0, x, d, h, g => by
    obtain ⟨y, r, rfl, h2, h3⟩ := h
    exact ⟨x, r, rfl, g, h3⟩
  | e :: ds, xs, n + 1, x, d, h, g => by
    obtain ⟨y, r, rfl, h2, h3⟩ := h
    exact ⟨y, r.set n x, rfl, h2, Rzs.set n h3 g⟩
theorem Rzs.reverse : ∀ {ds : List D} {xs : List V}, Rzs K F xs ds → Rzs K F xs.reverse ds.reverse
  | [], xs, h => by cases (show xs = [] from h); exact rfl
  | d :: ds, xs, h => by
    obtain ⟨x, r, rfl, h2, h3⟩ := h
    rw [List.reverse_cons, List.reverse_cons]
    exact Rzs.append (Rzs.reverse h3) ⟨x, [], rfl, h2, rfl⟩
theorem Rzs.dropLast {ds : List D} {xs : List V} (h : Rzs K F xs ds) : Rzs K F xs.dropLast ds.dropLast := by
  rw [List.dropLast_eq_take, List.dropLast_eq_take, h.len]
  exact h.take _
theorem Rzs.one {x : V} {d : D} (h : Rz K F x d) : Rzs K F [x] [d] := ⟨x, [], rfl, h, rfl⟩

/-! ### owned things -/
variable (K F H)
def Ows (R : V → D → AS → Prop) : List V → List D → AS → Prop
  | [], [], _ => True
  | x :: xs, d :: ds, A => ∃ A1 A2 : AS, (∀ a, A1 a → A a) ∧ (∀ a, A2 a → A a) ∧ (∀ a, A1 a → A2 a → False) ∧ R x d A1 ∧ Ows R xs ds A2
  | _, _, _ => False
def Ow : Nat → V → D → AS → Prop
  | 0, v, d, _ => Rz K F v d
  | k + 1, v, d, A => match d with
    | .lst ds => ∃ a xs, v = .ref a ∧ H a = some (.lst xs) ∧ A a ∧ Ows (Ow k) xs ds (fun b => A b ∧ b ≠ a)
    | .dic ks vs => ∃ a xs, v = .ref a ∧ IsDc H a ks xs ∧ A a ∧ Ows (Ow k) xs vs (fun b => A b ∧ b ≠ a)
    | d => Rz K F v d
variable {K F H}

theorem Ows.imp {R R' : V → D → AS → Prop} (hr : ∀ x d A, R x d A → R' x d A) : ∀ {xs : List V} {ds : List D} {A : AS}, Ows R xs ds A → Ows R' xs ds A
  | [], [], _, _ => trivial
  | x :: xs, d :: ds, A, ⟨A1, A2, h1, h2, h3, h4, h5⟩ => ⟨A1, A2, h1, h2, h3, hr _ _ _ h4, Ows.imp hr h5⟩
theorem Ows.impA {R R' : V → D → AS → Prop} : ∀ {xs : List V} {ds : List D} {A B : AS}, (∀ a, A a → B a) → (∀ x d A', (∀ a, A' a → A a) → R x d A' → R' x d A') → Ows R xs ds A → Ows R' xs ds B
  | [], [], _, _, _, _, _ => trivial
  | x :: xs, d :: ds, A, B, hs, hr, ⟨A1, A2, h1, h2, h3, h4, h5⟩ =>
    ⟨A1, A2, fun a h => hs a (h1 a h), fun a h => hs a (h2 a h), h3, hr _ _ _ h1 h4, Ows.impA (fun a h => h) (fun x d A' hA r => hr x d A' (fun a h => h2 a (hA a h)) r) h5⟩
theorem Ows.rzs : ∀ {xs : List V} {ds : List D} {A : AS}, Ows (fun v d _ => Rz K F v d) xs ds A → Rzs K F xs ds
  | [], [], _, _ => rfl
  | x :: xs, d :: ds, A, ⟨A1, A2, h1, h2, h3, h4, h5⟩ => ⟨x, xs, rfl, h4, Ows.rzs h5⟩
theorem Ows.of_rzs : ∀ {ds : List D} {xs : List V} (A : AS), Rzs K F xs ds → Ows (fun v d _ => Rz K F v d) xs ds A
  | [], xs, A, h => by cases (show xs = [] from h); trivial
  | d :: ds, xs, A, h => by
    obtain ⟨x, r, rfl, h2, h3⟩ := h
    exact ⟨fun _ => False, fun _ => False, fun _ h => h.elim, fun _ h => h.elim, fun _ h => h.elim, h2, Ows.of_rzs _ h3⟩
theorem ow0 : Ow K F H 0 = fun v d _ => Rz K F v d := by funext v d A; rfl
/-- what an owned thing leans on -/
theorem Ow.keep : ∀ (k : Nat) {v : V} {d : D} {A B : AS}, (∀ a, A a → B a) → Le F F' → (∀ a o, A a → H a = some o → H' a = some o) → Ow K F H k v d A → Ow K F' H' k v d B
  | 0, v, d, A, B, hs, hf, hk, h => Rz.mono hf d v h
  | k + 1, v, .lst ds, A, B, hs, hf, hk, h => by
    obtain ⟨a, xs, h1, h2, h3, h4⟩ := h
    exact ⟨a, xs, h1, hk a _ h3 h2, hs a h3, Ows.impA (fun b hb => ⟨hs b hb.1, hb.2⟩) (fun x d A' hA r => Ow.keep k (fun _ h => h) hf (fun b o hb => hk b o (hA b hb).1) r) h4⟩
  | k + 1, v, .dic ks vs, A, B, hs, hf, hk, h => by
    obtain ⟨a, xs, h1, h2, h3, h4⟩ := h
    refine ⟨a, xs, h1, ?_, hs a h3, Ows.impA (fun b hb => ⟨hs b hb.1, hb.2⟩) (fun x d A' hA r => Ow.keep k (fun _ h => h) hf (fun b o hb => hk b o (hA b hb).1) r) h4⟩
    rcases h2 with ⟨kvs, h, r⟩ | ⟨kvs, h, r⟩
    · exact .inl ⟨kvs, hk a _ h3 h, r⟩
    · exact .inr ⟨kvs, hk a _ h3 h, r⟩
  | k + 1, v, .non, A, B, hs, hf, hk, h => h
  | k + 1, v, .bl b, A, B, hs, hf, hk, h => h
  | k + 1, v, .int b, A, B, hs, hf, hk, h => h
  | k + 1, v, .str b, A, B, hs, hf, hk, h => h
  | k + 1, v, .tup ds, A, B, hs, hf, hk, h => Rz.mono hf (.tup ds) v h
  | k + 1, v, .fls ds, A, B, hs, hf, hk, h => Rz.mono hf (.fls ds) v h
/-- frozen -/
theorem Ow.frz : ∀ (k : Nat) {v : V} {d : D} {A : AS}, Le F F' → (∀ a o, A a → H a = some o → F' a = some o) → Ow K F H k v d A → Rz K F' v d
  | 0, v, d, A, hf, hk, h => Rz.mono hf d v h
  | k + 1, v, .lst ds, A, hf, hk, h => by
    obtain ⟨a, xs, h1, h2, h3, h4⟩ := h
    exact ⟨a, xs, h1, hk a _ h3 h2, Ows.rzs (Ows.impA (B := fun _ => True) (fun _ _ => trivial) (fun x d A' hA r => Ow.frz k hf (fun b o hb => hk b o (hA b hb).1) r) h4)⟩
  | k + 1, v, .dic ks vs, A, hf, hk, h => by
    obtain ⟨a, xs, h1, h2, h3, h4⟩ := h
    refine ⟨a, xs, h1, ?_, Ows.rzs (Ows.impA (B := fun _ => True) (fun _ _ => trivial) (fun x d A' hA r => Ow.frz k hf (fun b o hb => hk b o (hA b hb).1) r) h4)⟩
    rcases h2 with ⟨kvs, h, r⟩ | ⟨kvs, h, r⟩
    · exact .inl ⟨kvs, hk a _ h3 h, r⟩
    · exact .inr ⟨kvs, hk a _ h3 h, r⟩
  | k + 1, v, .non, A, hf, hk, h => h
  | k + 1, v, .bl b, A, hf, hk, h => h
  | k + 1, v, .int b, A, hf, hk, h => h
  | k + 1, v, .str b, A, hf, hk, h => h
  | k + 1, v, .tup ds, A, hf, hk, h => Rz.mono hf (.tup ds) v h
  | k + 1, v, .fls ds, A, hf, hk, h => Rz.mono hf (.fls ds) v h
end

/-! ### slots, states -/
inductive Sl where
  | un | vl (k : Nat) (d : D) | io (k : Nat) (d : D)
def Sl.kd : Sl → Option (Nat × D)
  | .un => none
  | .vl k d => some (k, d)
  | .io k d => some (k, d)
abbrev Ent := Option V × Sl
section
variable (K : PySem.W.Frag) (F H : Hp)
def RS (o : Option V) (s : Sl) (A : AS) : Prop := match s.kd with
  | none => True
  | some (k, d) => ∃ v, o = some v ∧ Ow K F H k v d A
def Sep : List Ent → AS → Prop
  | [], _ => True
  | p :: l, A => ∃ A1 A2 : AS, (∀ a, A1 a → A a) ∧ (∀ a, A2 a → A a) ∧ (∀ a, A1 a → A2 a → False) ∧ RS K F H p.1 p.2 A1 ∧ Sep l A2
structure RpC (l : List Ent) (A : AS) : Prop where
  sub : Le F H
  own : ∀ a, A a → F a = none ∧ ∃ o, H a = some o
  sep : Sep K F H l A
end
def Rp (K : PySem.W.Frag) (H : Hp) (l : List Ent) : Prop := ∃ F A, RpC K F H l A

section
variable {K : PySem.W.Frag} {F F' H H' : Hp} {l l' r : List Ent}
theorem RS.keep {o : Option V} {s : Sl} {A B : AS} (hs : ∀ a, A a → B a) (hf : Le F F') (hk : ∀ a o, A a → H a = some o → H' a = some o) (h : RS K F H o s A) : RS K F' H' o s B := by
  unfold RS at h ⊢
  cases e : s.kd with
  | none => trivial
  | some p =>
    rw [e] at h
    obtain ⟨v, h1, h2⟩ := h
    exact ⟨v, h1, Ow.keep _ hs hf hk h2⟩
theorem Sep.keep : ∀ {l : List Ent} {A B : AS}, (∀ a, A a → B a) → Le F F' → (∀ a o, A a → H a = some o → H' a = some o) → Sep K F H l A → Sep K F' H' l B
  | [], _, _, _, _, _, _ => trivial
  | p :: l, A, B, hs, hf, hk, ⟨A1, A2, h1, h2, h3, h4, h5⟩ =>
    ⟨A1, A2, fun a h => hs a (h1 a h), fun a h => hs a (h2 a h), h3, h4.keep (fun _ h => h) hf (fun a o h => hk a o (h1 a h)), Sep.keep (fun _ h => h) hf (fun a o h => hk a o (h2 a h)) h5⟩
theorem Sep.up {A B : AS} (hs : ∀ a, A a → B a) (h : Sep K F H l A) : Sep K F H l B := h.keep hs (Le.refl F) (fun _ _ _ e => e)
theorem Sep.perm : ∀ {l l' : List Ent}, l.Perm l' → ∀ {A : AS}, Sep K F H l A → Sep K F H l' A := by
  intro l l' hp
  induction hp with
  | nil => intro A h; exact h
  | cons x _ ih => intro A ⟨A1, A2, h1, h2, h3, h4, h5⟩; exact ⟨A1, A2, h1, h2, h3, h4, ih h5⟩
  | swap x y l =>
    intro A ⟨A1, A2, h1, h2, h3, h4, B1, B2, g1, g2, g3, g4, g5⟩
    refine ⟨B1, fun a => A1 a ∨ B2 a, fun a h => h2 a (g1 a h), fun a h => h.elim (h1 a) (fun h => h2 a (g2 a h)), fun a h => ?_, g4, A1, B2, fun a h => .inl h, fun a h => .inr h, fun a h h' => h3 a h (g2 a h'), h4, g5⟩
    rintro (h' | h')
    · exact h3 a h' (g1 a h)
    · exact g3 a h h'
  | trans _ _ ih1 ih2 => intro A h; exact ih2 (ih1 h)
theorem Sep.sub {l l' : List Ent} (hl : l'.Sublist l) : ∀ {A : AS}, Sep K F H l A → Sep K F H l' A := by
  induction hl with
  | slnil => intro A h; exact h
  | cons p _ ih => intro A ⟨A1, A2, h1, h2, h3, h4, h5⟩; exact (ih h5).up h2
  | cons_cons p _ ih => intro A ⟨A1, A2, h1, h2, h3, h4, h5⟩; exact ⟨A1, A2, h1, h2, h3, h4, ih h5⟩
theorem Rp.perm (hp : l.Perm l') (h : Rp K H l) : Rp K H l' := by
  obtain ⟨F, A, h1, h2, h3⟩ := h
  exact ⟨F, A, h1, h2, h3.perm hp⟩
theorem Rp.sub (hl : l'.Sublist l) (h : Rp K H l) : Rp K H l' := by
  obtain ⟨F, A, h1, h2, h3⟩ := h
  exact ⟨F, A, h1, h2, h3.sub hl⟩
theorem Rp.tail {p : Ent} (h : Rp K H (p :: l)) : Rp K H l := h.sub (List.sublist_cons_self p l)
theorem Rp.un {o : Option V} (h : Rp K H l) : Rp K H ((o, .un) :: l) := by
  obtain ⟨F, A, h1, h2, h3⟩ := h
  exact ⟨F, A, h1, h2, fun _ => False, A, fun _ h => h.elim, fun _ h => h, fun _ h => h.elim, trivial, h3⟩
/-- an entry is forgotten -/
theorem Rp.wipe1 {o o' : Option V} {s : Sl} (h : Rp K H ((o, s) :: l)) : Rp K H ((o', .un) :: l) := h.tail.un
/-- a frozen value may stand twice -/
theorem Rp.dup {v : V} {d : D} (h : Rp K H ((some v, .vl 0 d) :: l)) : Rp K H ((some v, .vl 0 d) :: (some v, .vl 0 d) :: l) := by
  obtain ⟨F, A, h1, h2, A1, A2, g1, g2, g3, g4, g5⟩ := h
  exact ⟨F, A, h1, h2, fun _ => False, A, fun _ h => h.elim, fun _ h => h, fun _ h => h.elim, g4, A1, A2, g1, g2, g3, g4, g5⟩
/-- an owned thing is frozen -/
theorem Rp.frz {v : V} {k : Nat} {d : D} (h : Rp K H ((some v, .vl k d) :: l)) : Rp K H ((some v, .vl 0 d) :: l) := by
  obtain ⟨F, A, h1, h2, A1, A2, g1, g2, g3, g4, g5⟩ := h
  obtain ⟨v', e, g4⟩ := g4
  cases e
  classical
  refine ⟨fun a => if A1 a then H a else F a, A2, fun a o e => ?_, fun a ha => ?_, fun _ => False, A2, fun _ h => h.elim, fun _ h => h, fun _ h => h.elim, ⟨v, rfl, ?_⟩, ?_⟩
  · by_cases q : A1 a
    · rw [if_pos q] at e; exact e
    · rw [if_neg q] at e; exact h1 a o e
  · have q : ¬ A1 a := fun z => g3 a z ha
    rw [if_neg q]
    exact h2 a (g2 a ha)
  · show Ow K _ H 0 v d _
    refine Ow.frz k (fun a o e => ?_) (fun a o ha e => ?_) g4
    · have q : ¬ A1 a := fun z => by
        have := (h2 a (g1 a z)).1
        rw [e] at this; cases this
      rw [if_neg q]; exact e
    · rw [if_pos ha]; exact e
  · refine g5.keep (fun _ h => h) (fun a o e => ?_) (fun _ _ _ e => e)
    have q : ¬ A1 a := fun z => by
      have := (h2 a (g1 a z)).1
      rw [e] at this; cases this
    rw [if_neg q]; exact e
theorem Rp.io_vl {o : Option V} {k : Nat} {d : D} : Rp K H ((o, .io k d) :: l) ↔ Rp K H ((o, .vl k d) :: l) :=
  ⟨fun ⟨F, A, h1, h2, A1, A2, g1, g2, g3, g4, g5⟩ => ⟨F, A, h1, h2, A1, A2, g1, g2, g3, g4, g5⟩, fun ⟨F, A, h1, h2, A1, A2, g1, g2, g3, g4, g5⟩ => ⟨F, A, h1, h2, A1, A2, g1, g2, g3, g4, g5⟩⟩
end

/-! ### what is read: a container whose items are frozen -/
def EFv (K : PySem.W.Frag) (F H : Hp) (v : V) : D → Prop
  | .lst ds => ∃ a xs, v = .ref a ∧ H a = some (.lst xs) ∧ Rzs K F xs ds
  | .dic ks vs => ∃ a xs, v = .ref a ∧ IsDc H a ks xs ∧ Rzs K F xs vs
  | d => Rz K F v d
section
variable {K : PySem.W.Frag} {F F' H H' : Hp} {l l' r : List Ent}
theorem EFv.of_rz (hf : Le F H) {v : V} {d : D} (h : Rz K F v d) : EFv K F H v d := by
  cases d with
  | lst ds => obtain ⟨a, xs, h1, h2, h3⟩ := h; exact ⟨a, xs, h1, hf _ _ h2, h3⟩
  | dic ks vs => obtain ⟨a, xs, h1, h2, h3⟩ := h; exact ⟨a, xs, h1, isDc_le hf h2, h3⟩
  | _ => exact h
theorem EFv.rz (hf : Le F H) {v : V} {d : D} (h : EFv K F H v d) : Rz K H v d := by
  cases d with
  | lst ds => obtain ⟨a, xs, h1, h2, h3⟩ := h; exact ⟨a, xs, h1, h2, Rzs.mono hf _ _ h3⟩
  | dic ks vs => obtain ⟨a, xs, h1, h2, h3⟩ := h; exact ⟨a, xs, h1, h2, Rzs.mono hf _ _ h3⟩
  | _ => exact Rz.mono hf _ _ h
theorem EFv.of_ow (hf : Le F H) {k : Nat} (hk : k ≤ 1) {v : V} {d : D} {A : AS} (h : Ow K F H k v d A) : EFv K F H v d := by
  match k, hk with
  | 0, _ => exact EFv.of_rz hf h
  | 1, _ =>
    cases d with
    | lst ds => obtain ⟨a, xs, h1, h2, _, h4⟩ := h; exact ⟨a, xs, h1, h2, Ows.rzs h4⟩
    | dic ks vs => obtain ⟨a, xs, h1, h2, _, h4⟩ := h; exact ⟨a, xs, h1, h2, Ows.rzs h4⟩
    | _ => exact h
/-- owned at any depth: read in the heap -/
theorem Ow.rzH (hf : Le F H) {k : Nat} {v : V} {d : D} {A : AS} (h : Ow K F H k v d A) : Rz K H v d := Ow.frz k hf (fun _ _ _ e => e) h
/-- what an operation gives: what is there already, or a new object -/
inductive New (K : PySem.W.Frag) (F H : Hp) : V → Hp → Nat → D → Prop
  | same {v : V} {d : D} : Rz K F v d → New K F H v H 0 d
  | lst {p : Addr} {xs : List V} {ds : List D} : H p = none → Rzs K F xs ds → New K F H (.ref p) (upd H p (.lst xs)) 1 (.lst ds)
  | tup {p : Addr} {xs : List V} {ds : List D} : H p = none → Rzs K F xs ds → New K F H (.ref p) (upd H p (.tup xs)) 0 (.tup ds)
  | dK {p : Addr} {kvs : List (Key × V)} {ks vs : List D} : H p = none → ks = kvs.map (fun q => keyD q.1) → Rzs K F (kvs.map (·.2)) vs → New K F H (.ref p) (upd H p (.dK kvs)) 1 (.dic ks vs)
  | dT {p : Addr} {kvs : List (List Key × V)} {ks vs : List D} : H p = none → ks = kvs.map (fun q => .tup (q.1.map keyD)) → Rzs K F (kvs.map (·.2)) vs → New K F H (.ref p) (upd H p (.dT kvs)) 1 (.dic ks vs)
theorem sep_new {A : AS} (c : RpC K F H l A) {p : Addr} (hp : H p = none) {o : HO} : Le F (upd F p o) ∧ Le (upd F p o) (upd H p o) ∧ (∀ a u, A a → H a = some u → upd H p o a = some u) ∧ ¬ A p := by
  refine ⟨Le.new (c.sub.none hp), c.sub.upd, fun a u ha e => ?_, fun ha => ?_⟩
  · rw [upd_ne (ne_of_none e hp)]; exact e
  · obtain ⟨_, u, e⟩ := c.own p ha
    rw [hp] at e; cases e
theorem Rp.own1 {A : AS} (c : RpC K F H l A) {p : Addr} (hp : H p = none) {o : HO} {d : D} (ho : ∀ B : AS, B p → Ow K F (upd H p o) 1 (.ref p) d B) : Rp K (upd H p o) ((some (.ref p), .vl 1 d) :: l) := by
  obtain ⟨_, _, h3, h4⟩ := sep_new (o := o) c hp
  refine ⟨F, fun a => A a ∨ a = p, c.sub.trans (Le.new hp), fun a ha => ?_, fun a => a = p, A, fun a h => .inr h, fun a h => .inl h, fun a h h' => h4 (h ▸ h'), ⟨.ref p, rfl, ho _ rfl⟩, ?_⟩
  · rcases ha with ha | rfl
    · obtain ⟨e1, u, e2⟩ := c.own a ha
      exact ⟨e1, u, h3 a u ha e2⟩
    · exact ⟨c.sub.none hp, _, upd_same⟩
  · exact c.sep.keep (fun _ h => h) (Le.refl F) h3
theorem Rp.new {A : AS} (c : RpC K F H l A) {v : V} {H' : Hp} {k : Nat} {d : D} (n : New K F H v H' k d) : Rp K H' ((some v, .vl k d) :: l) := by
  cases n with
  | same h => exact ⟨F, A, c.sub, c.own, fun _ => False, A, fun _ h => h.elim, fun _ h => h, fun _ h => h.elim, ⟨v, rfl, h⟩, c.sep⟩
  | @lst p xs ds hp h => exact Rp.own1 c hp fun B hB => ⟨p, xs, rfl, upd_same, hB, Ows.of_rzs _ h⟩
  | @dK p kvs ks vs hp hk h => exact Rp.own1 c hp fun B hB => ⟨p, _, rfl, .inl ⟨kvs, upd_same, hk, rfl⟩, hB, Ows.of_rzs _ h⟩
  | @dT p kvs ks vs hp hk h => exact Rp.own1 c hp fun B hB => ⟨p, _, rfl, .inr ⟨kvs, upd_same, hk, rfl⟩, hB, Ows.of_rzs _ h⟩
  | @tup p xs ds hp h =>
    obtain ⟨h1, h2, h3, h4⟩ := sep_new (o := .tup xs) c hp
    refine ⟨upd F p (.tup xs), A, h2, fun a ha => ?_, fun _ => False, A, fun _ h => h.elim, fun _ h => h, fun _ h => h.elim, ⟨.ref p, rfl, ?_⟩, c.sep.keep (fun _ h => h) h1 h3⟩
    · obtain ⟨e1, u, e2⟩ := c.own a ha
      exact ⟨by rw [upd_ne (fun z : a = p => h4 (z ▸ ha))]; exact e1, u, h3 a u ha e2⟩
    · exact ⟨p, xs, rfl, .inl (.inl upd_same), Rzs.mono h1 _ _ h⟩
end
end DN

set_option Elab.async false
set_option linter.all false
set_option maxRecDepth 100000
set_option maxHeartbeats 1000000
namespace DN
open PySem PySem.Spec L2
abbrev St := L2.St

abbrev Ev := List Sl
inductive R (α : Type) where
  | ok (a : α) (ev : Ev) | exc (n : Nat) (d : D) (ev : Ev) | bad
def R.bind {α β : Type} (m : R α) (f : α → Ev → R β) : R β := match m with
  | .ok a ev => f a ev
  | .exc n d ev => .exc n d ev
  | .bad => .bad
@[simp] theorem R.bind_ok {α β : Type} (a : α) (ev : Ev) (f : α → Ev → R β) : (R.ok a ev).bind f = f a ev := rfl
@[simp] theorem R.bind_exc {α β : Type} (n : Nat) (d : D) (ev : Ev) (f : α → Ev → R β) : (R.exc n d ev).bind f = R.exc n d ev := rfl
@[simp] theorem R.bind_bad {α β : Type} (f : α → Ev → R β) : R.bad.bind f = R.bad := rfl
def R.of {α : Type} (o : Option α) (ev : Ev) : R α := match o with
  | some a => .ok a ev
  | none => .bad
@[simp] theorem R.of_some {α : Type} (a : α) (ev : Ev) : R.of (some a) ev = .ok a ev := rfl
@[simp] theorem R.of_none {α : Type} (ev : Ev) : R.of (none : Option α) ev = .bad := rfl

/-- a value on the way: its own, or what a slot holds -/
inductive T where
  | vl (k : Nat) (d : D) | al (i : Nat)
def T.sl : T → Sl
  | .vl k d => .vl k d
  | .al _ => .un
def T.al? : T → St → V → Prop
  | .vl _ _, _, _ => True
  | .al i, σ, v => σ[i]? = some (some v)
def T.kd : T → Ev → Option (Nat × D)
  | .vl k d, _ => some (k, d)
  | .al i, ev => match ev[i]? with
    | some s => s.kd
    | none => none
/-- what is read of it: a container of frozen items -/
def T.rd (t : T) (ev : Ev) : Option D := match t.kd ev with
  | some (0, d) => some d
  | some (1, d) => some d
  | _ => none
/-- exceptions -/
structure XM where
  on : Prop
  cA : Nat → Addr
  E : St → XK
def XM.off : XM := ⟨False, fun _ => 0, fun _ _ _ _ => False⟩
structure Ik (α γ : Type) where
  ent : α → γ → List Ent
  ok : α → γ → St → Prop
def iT : Ik T V := ⟨fun t v => [(some v, t.sl)], fun t v σ => t.al? σ v⟩
def iB : Ik Bool Bool := ⟨fun _ _ => [], fun b c _ => b = c⟩
def iO : Ik (Option Int) (Option Int) := ⟨fun _ _ => [], fun b c _ => b = c⟩
def entTs : List T → List V → List Ent
  | t :: ts, v :: vs => (some v, t.sl) :: entTs ts vs
  | _, _ => []
def okTs : List T → List V → St → Prop
  | [], [], _ => True
  | t :: ts, v :: vs, σ => t.al? σ v ∧ okTs ts vs σ
  | _, _, _ => False
def iTs : Ik (List T) (List V) := ⟨entTs, okTs⟩

section
variable (K : PySem.W.Frag) (xm : XM)
def Exc (σ : St) (τ : List Ent) (n : Nat) (d : D) (ev' : Ev) : Prop :=
  ∀ dd v H', ev'.length = σ.length → Rp K H' ((some v, .vl 0 d) :: (σ.zip ev' ++ τ)) → H' dd = some (.xd [("value", v)]) → xm.E σ (.ref (xm.cA n)) (some dd) H'
def Res {α γ : Type} (I : Ik α γ) (σ : St) (τ : List Ent) (r : R α) (c : (γ → Hp → Prop) → Prop) : Prop := match r with
  | .ok a ev' => ∀ Q : γ → Hp → Prop, (∀ g H', ev'.length = σ.length → Rp K H' (σ.zip ev' ++ (I.ent a g ++ τ)) → I.ok a g σ → Q g H') → c Q
  | .exc n d ev' => xm.on → Exc K xm σ τ n d ev' → ∀ Q, c Q
  | .bad => True
end
section
variable {K : PySem.W.Frag} {xm : XM} {α β γ δ : Type} {I : Ik α γ} {J : Ik β δ} {σ : St} {τ : List Ent}
theorem sub_app {l b c : List Ent} (h : b.Sublist c) : (l ++ b).Sublist (l ++ c) := (List.Sublist.refl l).append h
theorem Exc.weak {n : Nat} {d : D} {ev' : Ev} {e : List Ent} (h : Exc K xm σ τ n d ev') : Exc K xm σ (e ++ τ) n d ev' := fun dd v H' hl hr hd =>
  h dd v H' hl (hr.sub (List.Sublist.cons_cons _ (sub_app (l := σ.zip ev') (List.sublist_append_right e τ)))) hd
theorem Res.weak {r : R α} {c : (γ → Hp → Prop) → Prop} {e : List Ent} (h : Res K xm I σ (e ++ τ) r c) : Res K xm I σ τ r c := by
  cases r with
  | ok a ev' =>
    intro Q q
    exact h Q fun g H' hl hr ho => q g H' hl (hr.sub (sub_app (sub_app (List.sublist_append_right e τ)))) ho
  | exc n d ev' =>
    intro ho hx
    exact h ho hx.weak
  | bad => trivial
theorem Res.bind {m : R α} {f : α → Ev → R β} {c1 : (γ → Hp → Prop) → Prop} {k : γ → Hp → (δ → Hp → Prop) → Prop} (h1 : Res K xm I σ τ m c1)
    (h2 : ∀ a g ev' H', m = .ok a ev' → ev'.length = σ.length → Rp K H' (σ.zip ev' ++ (I.ent a g ++ τ)) → I.ok a g σ → Res K xm J σ (I.ent a g ++ τ) (f a ev') (k g H')) :
    Res K xm J σ τ (m.bind f) (fun Q => c1 fun g H' => k g H' Q) := by
  cases m with
  | bad => trivial
  | exc n d ev' => exact fun ho hx Q => h1 ho hx _
  | ok a ev' =>
    show Res K xm J σ τ (f a ev') _
    have h3 := fun g H' hl hr ho => (h2 a g ev' H' rfl hl hr ho).weak
    cases e : f a ev' with
    | bad => trivial
    | exc n d ev2 =>
      intro ho hx Q
      refine h1 _ fun g H' hl hr hk => ?_
      have := h3 g H' hl hr hk
      rw [e] at this
      exact this ho hx Q
    | ok b ev2 =>
      intro Q q
      refine h1 _ fun g H' hl hr hk => ?_
      have := h3 g H' hl hr hk
      rw [e] at this
      exact this Q q
theorem Res.bindC {m : R α} {f : α → Ev → R β} {c1 : (γ → Hp → Prop) → Prop} {k : γ → Hp → (δ → Hp → Prop) → Prop} (h1 : Res K xm I σ τ m c1)
    (h2 : ∀ a g ev' H', m = .ok a ev' → ev'.length = σ.length → Rp K H' (σ.zip ev' ++ (I.ent a g ++ τ)) → I.ok a g σ → Res K xm J σ τ (f a ev') (k g H')) :
    Res K xm J σ τ (m.bind f) (fun Q => c1 fun g H' => k g H' Q) := by
  cases m with
  | bad => trivial
  | exc n d ev' => exact fun ho hx Q => h1 ho hx _
  | ok a ev' =>
    show Res K xm J σ τ (f a ev') _
    have h3 := fun g H' hl hr ho => h2 a g ev' H' rfl hl hr ho
    cases e : f a ev' with
    | bad => trivial
    | exc n d ev2 =>
      intro ho hx Q
      refine h1 _ fun g H' hl hr hk => ?_
      have := h3 g H' hl hr hk
      rw [e] at this
      exact this ho hx Q
    | ok b ev2 =>
      intro Q q
      refine h1 _ fun g H' hl hr hk => ?_
      have := h3 g H' hl hr hk
      rw [e] at this
      exact this Q q
/-- the end of an expression: a value -/
theorem Res.pure {a : α} {g : γ} {ev : Ev} {H : Hp} {c : (γ → Hp → Prop) → Prop} (hl : ev.length = σ.length) (hr : Rp K H (σ.zip ev ++ (I.ent a g ++ τ))) (ho : I.ok a g σ) (hc : ∀ Q, Q g H → c Q) : Res K xm I σ τ (.ok a ev) c :=
  fun Q q => hc Q (q g H hl hr ho)
theorem Res.imp {r : R α} {c c' : (γ → Hp → Prop) → Prop} (h : Res K xm I σ τ r c) (hc : ∀ Q, c Q → c' Q) : Res K xm I σ τ r c' := by
  cases r with
  | ok a ev' => exact fun Q q => hc _ (h Q q)
  | exc n d ev' => exact fun ho hx Q => hc _ (h ho hx Q)
  | bad => trivial
end

/-! ### judgements -/
section
variable (K : PySem.W.Frag) (xm : XM)
def WE (te : TE) (f : Ev → R T) : Prop := ∀ σ τ H ev, ev.length = σ.length → Rp K H (σ.zip ev ++ τ) → Res K xm iT σ τ (f ev) (te σ H)
def WT (tt : TT) (f : Ev → R Bool) : Prop := ∀ σ τ H ev, ev.length = σ.length → Rp K H (σ.zip ev ++ τ) → Res K xm iB σ τ (f ev) (tt σ H)
def WA (ta : TA) (f : Ev → R (List T)) : Prop := ∀ σ τ H ev, ev.length = σ.length → Rp K H (σ.zip ev ++ τ) → Res K xm iTs σ τ (f ev) (ta σ H)
def WO (to : TO) (f : Ev → R (Option Int)) : Prop := ∀ σ τ H ev, ev.length = σ.length → Rp K H (σ.zip ev ++ τ) → Res K xm iO σ τ (f ev) (to σ H)
end

/-! ### reading -/
section
variable {K : PySem.W.Frag} {xm : XM} {F H : Hp} {σ : St} {ev : Ev} {l τ : List Ent} {A : AS}
theorem Sep.mem : ∀ {l : List Ent} {A : AS} {p : Ent}, Sep K F H l A → p ∈ l → ∃ A' : AS, (∀ a, A' a → A a) ∧ RS K F H p.1 p.2 A'
  | q :: l, A, p, ⟨A1, A2, h1, h2, _, h4, h5⟩, hp => by
    rcases List.mem_cons.mp hp with rfl | hp
    · exact ⟨A1, h1, h4⟩
    · obtain ⟨A', g1, g2⟩ := Sep.mem h5 hp
      exact ⟨A', fun a h => h2 a (g1 a h), g2⟩
theorem zip_mem {i : Nat} {o : Option V} {s : Sl} (h1 : σ[i]? = some o) (h2 : ev[i]? = some s) : (o, s) ∈ σ.zip ev :=
  List.mem_of_getElem? (i := i) (by rw [List.getElem?_zip_eq_some]; exact ⟨h1, h2⟩)
theorem kd_ow {t : T} {v : V} {k : Nat} {d : D} (c : RpC K F H (σ.zip ev ++ l) A) (hm : (some v, t.sl) ∈ l) (ha : t.al? σ v) (hk : t.kd ev = some (k, d)) : ∃ A', Ow K F H k v d A' := by
  cases t with
  | vl k' d' =>
    cases hk
    obtain ⟨A', _, v', e, h⟩ := c.sep.mem (List.mem_append_right _ hm)
    cases e
    exact ⟨A', h⟩
  | al i =>
    have hk : (match ev[i]? with | some s => s.kd | none => none) = some (k, d) := hk
    cases e : ev[i]? with
    | none => rw [e] at hk; cases hk
    | some s =>
      rw [e] at hk
      have hk : s.kd = some (k, d) := hk
      obtain ⟨A', _, h⟩ := c.sep.mem (List.mem_append_left _ (zip_mem ha e))
      unfold RS at h
      rw [hk] at h
      obtain ⟨v', e', h⟩ := h
      cases e'
      exact ⟨A', h⟩
theorem rd_ef {t : T} {v : V} {d : D} (c : RpC K F H (σ.zip ev ++ l) A) (hm : (some v, t.sl) ∈ l) (ha : t.al? σ v) (hk : t.rd ev = some d) : EFv K F H v d := by
  unfold T.rd at hk
  split at hk
  · rename_i d' e; cases hk; obtain ⟨A', h⟩ := kd_ow c hm ha e; exact EFv.of_ow c.sub (Nat.zero_le _) h
  · rename_i d' e; cases hk; obtain ⟨A', h⟩ := kd_ow c hm ha e; exact EFv.of_ow c.sub (Nat.le_refl _) h
  · cases hk
end

/-! ### operations by values -/
section
variable (K : PySem.W.Frag)
def Op1 (r : V → Hp → VK → Prop) (f : D → Option (Nat × D)) : Prop := ∀ F H x d1 k d, Le F H → EFv K F H x d1 → f d1 = some (k, d) → ∀ Q : VK, (∀ v H', New K F H v H' k d → Q v H') → r x H Q
def Op2 (r : R2) (f : D → D → Option (Nat × D)) : Prop := ∀ F H x y d1 d2 k d, Le F H → EFv K F H x d1 → EFv K F H y d2 → f d1 d2 = some (k, d) → ∀ Q : VK, (∀ v H', New K F H v H' k d → Q v H') → r x y H Q
def EFvs (F H : Hp) : List V → List D → Prop
  | [], [] => True
  | v :: vs, d :: ds => EFv K F H v d ∧ EFvs F H vs ds
  | _, _ => False
def OpN (r : List V → Hp → VK → Prop) (f : List D → Option (Nat × D)) : Prop := ∀ F H xs ds k d, Le F H → EFvs K F H xs ds → f ds = some (k, d) → ∀ Q : VK, (∀ v H', New K F H v H' k d → Q v H') → r xs H Q
/-- a method: its object, its arguments -/
def OpM (r : V → List V → Hp → VK → Prop) (f : D → List D → Option (Nat × D)) : Prop := ∀ F H x xs d1 ds k d, Le F H → EFv K F H x d1 → EFvs K F H xs ds → f d1 ds = some (k, d) → ∀ Q : VK, (∀ v H', New K F H v H' k d → Q v H') → r x xs H Q
def OpS (r : V → Option Int → Option Int → Hp → VK → Prop) (f : D → Option Int → Option Int → Option (Nat × D)) : Prop := ∀ F H x lo hi d1 k d, Le F H → EFv K F H x d1 → f d1 lo hi = some (k, d) → ∀ Q : VK, (∀ v H', New K F H v H' k d → Q v H') → r x lo hi H Q
end
def tVl (p : Nat × D) : T := .vl p.1 p.2
def out (o : Option (Nat × D)) (ev : Ev) : R T := match o with
  | some p => .ok (.vl p.1 p.2) ev
  | none => .bad
@[simp] theorem out_some (k : Nat) (d : D) (ev : Ev) : out (some (k, d)) ev = .ok (.vl k d) ev := rfl
@[simp] theorem out_none (ev : Ev) : out none ev = .bad := rfl

def dVar (i : Nat) : Ev → R T := fun ev => match ev[i]? with
  | some (.vl 0 d) => .ok (.vl 0 d) ev
  | some (.vl _ _) => .ok (.al i) ev
  | some (.io _ _) => .ok (.al i) ev
  | _ => .bad
def dC (d : D) : Ev → R T := fun ev => .ok (.vl 0 d) ev
def dUn (f : D → Option (Nat × D)) (fa : Ev → R T) : Ev → R T := fun ev => (fa ev).bind fun t ev1 => match t.rd ev1 with
  | some d => out (f d) ev1
  | none => .bad
def dOp (f : D → D → Option (Nat × D)) (fa fb : Ev → R T) : Ev → R T := fun ev => (fa ev).bind fun t ev1 => (fb ev1).bind fun u ev2 => match t.rd ev2, u.rd ev2 with
  | some d, some e => out (f d e) ev2
  | _, _ => .bad
def rds : List T → Ev → Option (List D)
  | [], _ => some []
  | t :: ts, ev => match t.rd ev, rds ts ev with
    | some d, some ds => some (d :: ds)
    | _, _ => none
def dNil : Ev → R (List T) := fun ev => .ok [] ev
def dCons (fa : Ev → R T) (fr : Ev → R (List T)) : Ev → R (List T) := fun ev => (fa ev).bind fun t ev1 => (fr ev1).bind fun ts ev2 => .ok (t :: ts) ev2
def dCB (f : List D → Option (Nat × D)) (fa : Ev → R (List T)) : Ev → R T := fun ev => (fa ev).bind fun ts ev1 => match rds ts ev1 with
  | some ds => out (f ds) ev1
  | none => .bad
/-- a method of a built-in type, nothing written -/
def dM (f : D → List D → Option (Nat × D)) (fo : Ev → R T) (fa : Ev → R (List T)) : Ev → R T := fun ev => (fo ev).bind fun t ev1 => (fa ev1).bind fun ts ev2 => match t.rd ev2, rds ts ev2 with
  | some d, some ds => out (f d ds) ev2
  | _, _ => .bad
def dNoPart : Ev → R (Option Int) := fun ev => .ok none ev
def dPart (fa : Ev → R T) : Ev → R (Option Int) := fun ev => (fa ev).bind fun t ev1 => match t.rd ev1 with
  | some (.int i) => .ok (some i) ev1
  | _ => .bad
def dSl (f : D → Option Int → Option Int → Option (Nat × D)) (fa : Ev → R T) (fl fh : Ev → R (Option Int)) : Ev → R T := fun ev => (fa ev).bind fun t ev1 => (fl ev1).bind fun lo ev2 => (fh ev2).bind fun hi ev3 => match t.rd ev3 with
  | some d => out (f d lo hi) ev3
  | none => .bad
/-- a test of a bool -/
def dTest (fa : Ev → R T) : Ev → R Bool := fun ev => (fa ev).bind fun t ev1 => match t.rd ev1 with
  | some (.bl b) => .ok b ev1
  | _ => .bad
def dAnd (fa fb : Ev → R Bool) : Ev → R Bool := fun ev => (fa ev).bind fun b ev1 => if b = true then fb ev1 else .ok false ev1
def dOr (fa fb : Ev → R Bool) : Ev → R Bool := fun ev => (fa ev).bind fun b ev1 => if b = true then .ok true ev1 else fb ev1
def dNot (fa : Ev → R Bool) : Ev → R Bool := fun ev => (fa ev).bind fun b ev1 => .ok (!b) ev1
def dIf (fc : Ev → R Bool) (fa fb : Ev → R T) : Ev → R T := fun ev => (fc ev).bind fun b ev1 => if b = true then fa ev1 else fb ev1
/-- and, or, not as values, of bools -/
def dAndV (fa fb : Ev → R T) : Ev → R T := fun ev => (fa ev).bind fun t ev1 => match t.rd ev1 with
  | some (.bl b) => if b = true then fb ev1 else .ok (.vl 0 (.bl false)) ev1
  | _ => .bad
def dOrV (fa fb : Ev → R T) : Ev → R T := fun ev => (fa ev).bind fun t ev1 => match t.rd ev1 with
  | some (.bl b) => if b = true then .ok (.vl 0 (.bl true)) ev1 else fb ev1
  | _ => .bad
def dNotV (fa : Ev → R T) : Ev → R T := fun ev => (fa ev).bind fun t ev1 => match t.rd ev1 with
  | some (.bl b) => .ok (.vl 0 (.bl (!b))) ev1
  | _ => .bad
/-- a displayed tuple, list: what is handed in is frozen -/
def fz1 : T → Ev → Option (D × Ev)
  | .vl _ d, ev => some (d, ev)
  | .al i, ev => match ev[i]? with
    | some (.vl _ d) => some (d, ev.set i (.vl 0 d))
    | _ => none
def fzs : List T → Ev → Option (List D × Ev)
  | [], ev => some ([], ev)
  | t :: ts, ev => match fz1 t ev with
    | some (d, ev1) => (match fzs ts ev1 with
      | some (ds, ev2) => some (d :: ds, ev2)
      | none => none)
    | none => none
def dTup (fa : Ev → R (List T)) : Ev → R T := fun ev => (fa ev).bind fun ts ev1 => match fzs ts ev1 with
  | some (ds, ev2) => .ok (.vl 0 (.tup ds)) ev2
  | none => .bad
def dLst (fa : Ev → R (List T)) : Ev → R T := fun ev => (fa ev).bind fun ts ev1 => match fzs ts ev1 with
  | some (ds, ev2) => .ok (.vl 1 (.lst ds)) ev2
  | none => .bad

section
variable {K : PySem.W.Frag} {xm : XM} {te ta tb : TE} {tt tu : TT} {tr : TA} {tl th : TO} {f fa fb : Ev → R T} {fr : Ev → R (List T)} {ft fu : Ev → R Bool} {fl fh : Ev → R (Option Int)}
theorem mem_ent (σ : St) (v : V) (t : T) (τ : List Ent) : (some v, t.sl) ∈ iT.ent t v ++ τ := List.mem_cons_self ..
/-- a leaf: an operation gives something -/
theorem res_out {σ : St} {ev : Ev} {H : Hp} {τ : List Ent} {o : Option (Nat × D)} {c : VK → Prop} (hl : ev.length = σ.length) (hr : Rp K H (σ.zip ev ++ τ))
    (h : ∀ F A k d, RpC K F H (σ.zip ev ++ τ) A → o = some (k, d) → ∀ Q : VK, (∀ v H', New K F H v H' k d → Q v H') → c Q) : Res K xm iT σ τ (out o ev) c := by
  cases o with
  | none => trivial
  | some p =>
    obtain ⟨k, d⟩ := p
    intro Q q
    obtain ⟨F, A, cc⟩ := hr
    refine h F A k d cc rfl Q fun v H' n => q v H' hl ?_ trivial
    exact (Rp.new cc n).perm (by
      show ((some v, Sl.vl k d) :: (σ.zip ev ++ τ)).Perm (σ.zip ev ++ ([(some v, Sl.vl k d)] ++ τ))
      exact (List.perm_middle).symm)
theorem we_var {i : Nat} : WE K xm (tVar i) (dVar i) := by
  intro σ τ H ev hl hr
  unfold dVar
  have key : ∀ s : Sl, ev[i]? = some s → s.kd ≠ none → ∃ v, σ[i]? = some (some v) := fun s e hs => by
    obtain ⟨F, A, c⟩ := hr
    have hi : i < σ.length := by rw [← hl]; exact (List.getElem?_eq_some_iff.mp e).1
    obtain ⟨A', _, h⟩ := c.sep.mem (List.mem_append_left _ (zip_mem (List.getElem?_eq_getElem hi) e))
    unfold RS at h
    cases q : s.kd with
    | none => exact absurd q hs
    | some p =>
      rw [q] at h
      obtain ⟨v, e', _⟩ := h
      exact ⟨v, by rw [List.getElem?_eq_getElem hi]; exact congrArg some e'⟩
  have alia : ∀ v, σ[i]? = some (some v) → Res K xm iT σ τ (.ok (.al i) ev) (tVar i σ H) := fun v e => by
    intro Q q
    refine ⟨v, e, q v H hl ?_ e⟩
    exact (hr.un (o := some v)).perm (List.perm_middle).symm
  split
  · rename_i d e
    obtain ⟨v, e'⟩ := key _ e (by intro z; cases z)
    intro Q q
    refine ⟨v, e', q v H hl ?_ trivial⟩
    obtain ⟨F, A, c⟩ := hr
    obtain ⟨A', _, h⟩ := c.sep.mem (List.mem_append_left _ (zip_mem e' e))
    obtain ⟨v', e2, h⟩ := h
    cases e2
    exact (Rp.new c (.same h)).perm (List.perm_middle).symm
  · rename_i k d _ e
    obtain ⟨v, e'⟩ := key _ e (by intro z; cases z)
    exact alia v e'
  · rename_i k d e
    obtain ⟨v, e'⟩ := key _ e (by intro z; cases z)
    exact alia v e'
  · trivial
theorem we_c {v : V} {d : D} (h : ∀ F, Rz K F v d) : WE K xm (tC v) (dC d) := by
  intro σ τ H ev hl hr Q q
  obtain ⟨F, A, c⟩ := hr
  exact q v H hl ((Rp.new c (.same (h F))).perm (List.perm_middle).symm) trivial
theorem we_un {r : V → Hp → VK → Prop} {g : D → Option (Nat × D)} (hr : Op1 K r g) (ha : WE K xm ta fa) : WE K xm (tUn r ta) (dUn g fa) := by
  intro σ τ H ev hl hr0
  refine Res.bind (k := fun x H1 Q => r x H1 Q) (ha σ τ H ev hl hr0) fun t v ev1 H1 _ hl1 hr1 ho1 => ?_
  cases e : t.rd ev1 with
  | none => trivial
  | some d => exact res_out hl1 hr1 fun F A k d' c ho Q q => hr F H1 v d k d' c.sub (rd_ef c (mem_ent σ v t τ) ho1 e) ho Q q
theorem we_op {r : R2} {g : D → D → Option (Nat × D)} (hr : Op2 K r g) (ha : WE K xm ta fa) (hb : WE K xm tb fb) : WE K xm (tOp r ta tb) (dOp g fa fb) := by
  intro σ τ H ev hl hr0
  refine Res.bind (k := fun x H1 Q => tb σ H1 fun y H2 => r x y H2 Q) (ha σ τ H ev hl hr0) fun t v ev1 H1 _ hl1 hr1 ho1 => ?_
  refine Res.bind (k := fun y H2 Q => r v y H2 Q) (hb σ _ H1 ev1 hl1 hr1) fun u w ev2 H2 _ hl2 hr2 ho2 => ?_
  cases e : t.rd ev2 with
  | none => trivial
  | some d =>
    cases e' : u.rd ev2 with
    | none => trivial
    | some d2 => exact res_out hl2 hr2 fun F A k d' c ho Q q => hr F H2 v w d d2 k d' c.sub (rd_ef c (List.mem_cons_of_mem _ (mem_ent σ v t τ)) ho1 e) (rd_ef c (mem_ent σ w u _) ho2 e') ho Q q
theorem wa_nil : WA K xm tNil dNil := fun σ τ H ev hl hr Q q => q [] H hl hr trivial
theorem entTs_cons (t : T) (ts : List T) (v : V) (vs : List V) : entTs (t :: ts) (v :: vs) = (some v, t.sl) :: entTs ts vs := rfl
theorem wa_cons (ha : WE K xm ta fa) (hb : WA K xm tr fr) : WA K xm (tCons ta tr) (dCons fa fr) := by
  intro σ τ H ev hl hr0
  have h1 := ha σ τ H ev hl hr0
  unfold dCons
  cases e1 : fa ev with
  | bad => trivial
  | exc n d ev1 =>
    rw [e1] at h1
    exact fun ho hx Q => h1 ho hx _
  | ok t ev1 =>
    rw [e1] at h1
    show Res K xm iTs σ τ ((fr ev1).bind fun ts ev2 => .ok (t :: ts) ev2) (tCons ta tr σ H)
    have h2 : ∀ v H1, ev1.length = σ.length → Rp K H1 (σ.zip ev1 ++ (iT.ent t v ++ τ)) → Res K xm iTs σ (iT.ent t v ++ τ) (fr ev1) (tr σ H1) := fun v H1 hl1 hr1 => hb σ _ H1 ev1 hl1 hr1
    cases e : fr ev1 with
    | bad => trivial
    | exc n d ev2 =>
      rw [e] at h2
      intro ho hx Q
      refine h1 _ fun v H1 hl1 hr1 ho1 => h2 v H1 hl1 hr1 ho hx.weak _
    | ok ts ev2 =>
      rw [e] at h2
      intro Q q
      refine h1 _ fun v H1 hl1 hr1 ho1 => h2 v H1 hl1 hr1 _ fun vs H2 hl2 hr2 ho2 => q (v :: vs) H2 hl2 (hr2.perm ?_) ⟨ho1, ho2⟩
      refine List.Perm.append_left _ ?_
      show (entTs ts vs ++ ((some v, t.sl) :: τ)).Perm ((some v, t.sl) :: (entTs ts vs ++ τ))
      exact List.perm_middle
theorem rds_ef {F H : Hp} {σ : St} {ev : Ev} {l : List Ent} {A : AS} (c : RpC K F H (σ.zip ev ++ l) A) : ∀ {ts : List T} {vs : List V} {ds : List D}, (∀ p ∈ entTs ts vs, p ∈ l) → okTs ts vs σ → rds ts ev = some ds → EFvs K F H vs ds
  | [], [], ds, _, _, h => by cases h; trivial
  | t :: ts, v :: vs, ds, hm, ho, h => by
    unfold rds at h
    split at h
    · rename_i d ds' e1 e2
      cases h
      exact ⟨rd_ef c (hm _ (List.mem_cons_self ..)) ho.1 e1, rds_ef c (fun p hp => hm p (List.mem_cons_of_mem _ hp)) ho.2 e2⟩
    · cases h
theorem we_cb {r : List V → Hp → VK → Prop} {g : List D → Option (Nat × D)} (hr : OpN K r g) (ha : WA K xm tr fr) : WE K xm (tCB r tr) (dCB g fr) := by
  intro σ τ H ev hl hr0
  refine Res.bind (k := fun xs H1 Q => r xs H1 Q) (ha σ τ H ev hl hr0) fun ts vs ev1 H1 _ hl1 hr1 ho1 => ?_
  cases e : rds ts ev1 with
  | none => trivial
  | some ds => exact res_out hl1 hr1 fun F A k d' c ho Q q => hr F H1 vs ds k d' c.sub (rds_ef c (fun p hp => List.mem_append_left _ hp) ho1 e) ho Q q
/-- a method's reading in its several spellings -/
theorem we_m {r : V → List V → Hp → VK → Prop} {g : D → List D → Option (Nat × D)} {tm : TE} (hr : OpM K r g) (ha : WE K xm ta fa) (hb : WA K xm tr fr)
    (hm : ∀ σ H Q, (ta σ H fun x H1 => tr σ H1 fun xs H2 => r x xs H2 Q) → tm σ H Q) : WE K xm tm (dM g fa fr) := by
  intro σ τ H ev hl hr0
  have key : Res K xm iT σ τ (dM g fa fr ev) fun Q => ta σ H fun x H1 => tr σ H1 fun xs H2 => r x xs H2 Q := by
    refine Res.bind (ha σ τ H ev hl hr0) fun t v ev1 H1 _ hl1 hr1 ho1 => ?_
    refine Res.bind (hb σ _ H1 ev1 hl1 hr1) fun ts vs ev2 H2 _ hl2 hr2 ho2 => ?_
    cases e : t.rd ev2 with
    | none => trivial
    | some d =>
      cases e' : rds ts ev2 with
      | none => trivial
      | some ds => exact res_out hl2 hr2 fun F A k d' c ho Q q => hr F H2 v vs d ds k d' c.sub (rd_ef c (List.mem_append_right _ (mem_ent σ v t τ)) ho1 e) (rds_ef c (fun p hp => List.mem_append_left _ hp) ho2 e') ho Q q
  exact key.imp fun Q h => hm σ H Q h
theorem wo_none : WO K xm tNoPart dNoPart := fun σ τ H ev hl hr Q q => q none H hl hr rfl
theorem wo_some (ha : WE K xm ta fa) : WO K xm (tPart ta) (dPart fa) := by
  intro σ τ H ev hl hr0
  refine Res.bind (k := fun x H1 Q => ∃ i, x = .int i ∧ Q (some i) H1) (ha σ τ H ev hl hr0) fun t v ev1 H1 _ hl1 hr1 ho1 => ?_
  split
  · rename_i i e
    obtain ⟨F, A, c⟩ := id hr1
    have h : v = .int i := rd_ef c (mem_ent σ v t τ) ho1 e
    exact Res.pure (I := iO) hl1 hr1 rfl fun Q q => ⟨i, h, q⟩
  · trivial
theorem we_sl {r : V → Option Int → Option Int → Hp → VK → Prop} {g : D → Option Int → Option Int → Option (Nat × D)} (hr : OpS K r g) (ha : WE K xm ta fa) (h1 : WO K xm tl fl) (h2 : WO K xm th fh) : WE K xm (tSl r ta tl th) (dSl g fa fl fh) := by
  intro σ τ H ev hl hr0
  refine Res.bind (k := fun x H1 Q => tl σ H1 fun l H2 => th σ H2 fun u H3 => r x l u H3 Q) (ha σ τ H ev hl hr0) fun t v ev1 H1 _ hl1 hr1 ho1 => ?_
  refine Res.bind (k := fun l H2 Q => th σ H2 fun u H3 => r v l u H3 Q) (h1 σ _ H1 ev1 hl1 hr1) fun lo lo' ev2 H2 _ hl2 hr2 ho2 => ?_
  refine Res.bind (k := fun u H3 Q => r v lo' u H3 Q) (h2 σ _ H2 ev2 hl2 hr2) fun hi hi' ev3 H3 _ hl3 hr3 ho3 => ?_
  obtain rfl : lo = lo' := ho2
  obtain rfl : hi = hi' := ho3
  cases e : t.rd ev3 with
  | none => trivial
  | some d => exact res_out hl3 hr3 fun F A k d' c ho Q q => hr F H3 v lo hi d k d' c.sub (rd_ef c (mem_ent σ v t τ) ho1 e) ho Q q
theorem wt_test (ha : WE K xm ta fa) : WT K xm (tTest ta) (dTest fa) := by
  intro σ τ H ev hl hr0
  refine Res.bind (k := fun x H1 Q => ∃ k, x = .bl k ∧ Q k H1) (ha σ τ H ev hl hr0) fun t v ev1 H1 _ hl1 hr1 ho1 => ?_
  split
  · rename_i b e
    obtain ⟨F, A, c⟩ := id hr1
    have h : v = .bl b := rd_ef c (mem_ent σ v t τ) ho1 e
    exact Res.pure (I := iB) hl1 hr1 rfl fun Q q => ⟨b, h, q⟩
  · trivial
theorem wt_and (ha : WT K xm tt ft) (hb : WT K xm tu fu) : WT K xm (tAnd tt tu) (dAnd ft fu) := by
  intro σ τ H ev hl hr0
  refine Res.bind (k := fun c H1 Q => if c = true then tu σ H1 Q else Q false H1) (ha σ τ H ev hl hr0) fun b b' ev1 H1 _ hl1 hr1 ho1 => ?_
  obtain rfl : b = b' := ho1
  cases b with
  | true => exact (hb σ _ H1 ev1 hl1 hr1)
  | false => exact Res.pure (I := iB) hl1 hr1 rfl fun Q q => q
theorem wt_or (ha : WT K xm tt ft) (hb : WT K xm tu fu) : WT K xm (tOr tt tu) (dOr ft fu) := by
  intro σ τ H ev hl hr0
  refine Res.bind (k := fun c H1 Q => if c = true then Q true H1 else tu σ H1 Q) (ha σ τ H ev hl hr0) fun b b' ev1 H1 _ hl1 hr1 ho1 => ?_
  obtain rfl : b = b' := ho1
  cases b with
  | false => exact (hb σ _ H1 ev1 hl1 hr1)
  | true => exact Res.pure (I := iB) hl1 hr1 rfl fun Q q => q
theorem wt_not (ha : WT K xm tt ft) : WT K xm (tNot tt) (dNot ft) := by
  intro σ τ H ev hl hr0
  refine Res.bind (k := fun c H1 Q => Q (!c) H1) (ha σ τ H ev hl hr0) fun b b' ev1 H1 _ hl1 hr1 ho1 => ?_
  obtain rfl : b = b' := ho1
  exact Res.pure (I := iB) hl1 hr1 rfl fun Q q => q
theorem we_if (hc : WT K xm tt ft) (ha : WE K xm ta fa) (hb : WE K xm tb fb) : WE K xm (tIf tt ta tb) (dIf ft fa fb) := by
  intro σ τ H ev hl hr0
  refine Res.bind (k := fun c H1 Q => if c = true then ta σ H1 Q else tb σ H1 Q) (hc σ τ H ev hl hr0) fun b b' ev1 H1 _ hl1 hr1 ho1 => ?_
  obtain rfl : b = b' := ho1
  cases b with
  | true => exact (ha σ _ H1 ev1 hl1 hr1)
  | false => exact (hb σ _ H1 ev1 hl1 hr1)
theorem Res.scal {σ : St} {ev : Ev} {H : Hp} {τ : List Ent} {v : V} {d : D} {c : VK → Prop} (hl : ev.length = σ.length) (hr : Rp K H (σ.zip ev ++ τ)) (h : ∀ F, Rz K F v d) (hc : ∀ Q : VK, Q v H → c Q) : Res K xm iT σ τ (.ok (.vl 0 d) ev) c := by
  refine fun Q q => hc Q (q v H hl ?_ trivial)
  obtain ⟨F, A, cc⟩ := hr
  exact (Rp.new cc (.same (h F))).perm (List.perm_middle).symm
theorem we_andV (ha : WE K xm ta fa) (hb : WE K xm tb fb) : WE K xm (tAndV ta tb) (dAndV fa fb) := by
  intro σ τ H ev hl hr0
  refine Res.bind (k := fun x H1 Q => ∃ c, x = .bl c ∧ if c = true then tb σ H1 Q else Q (.bl false) H1) (ha σ τ H ev hl hr0) fun t v ev1 H1 _ hl1 hr1 ho1 => ?_
  split
  · rename_i b e
    obtain ⟨F, A, c⟩ := id hr1
    have h : v = .bl b := rd_ef c (mem_ent σ v t τ) ho1 e
    cases b with
    | true => exact (hb σ _ H1 ev1 hl1 hr1).imp fun Q q => ⟨true, h, q⟩
    | false => exact Res.scal hl1 hr1 (v := .bl false) (fun _ => rfl) fun Q q => ⟨false, h, q⟩
  · trivial
theorem we_orV (ha : WE K xm ta fa) (hb : WE K xm tb fb) : WE K xm (tOrV ta tb) (dOrV fa fb) := by
  intro σ τ H ev hl hr0
  refine Res.bind (k := fun x H1 Q => ∃ c, x = .bl c ∧ if c = true then Q (.bl true) H1 else tb σ H1 Q) (ha σ τ H ev hl hr0) fun t v ev1 H1 _ hl1 hr1 ho1 => ?_
  split
  · rename_i b e
    obtain ⟨F, A, c⟩ := id hr1
    have h : v = .bl b := rd_ef c (mem_ent σ v t τ) ho1 e
    cases b with
    | false => exact (hb σ _ H1 ev1 hl1 hr1).imp fun Q q => ⟨false, h, q⟩
    | true => exact Res.scal hl1 hr1 (v := .bl true) (fun _ => rfl) fun Q q => ⟨true, h, q⟩
  · trivial
theorem we_notV (ha : WE K xm ta fa) : WE K xm (tNotV ta) (dNotV fa) := by
  intro σ τ H ev hl hr0
  refine Res.bind (k := fun x H1 Q => ∃ c, x = V.bl c ∧ Q (V.bl (!c)) H1) (ha σ τ H ev hl hr0) fun t v ev1 H1 _ hl1 hr1 ho1 => ?_
  split
  · rename_i b e
    obtain ⟨F, A, c⟩ := id hr1
    have h : v = .bl b := rd_ef c (mem_ent σ v t τ) ho1 e
    exact Res.scal hl1 hr1 (v := .bl (!b)) (fun _ => rfl) fun Q q => ⟨b, h, q⟩
  · trivial
end
end DN

set_option Elab.async false
set_option linter.all false
set_option maxRecDepth 100000
set_option maxHeartbeats 1000000
namespace DN
open PySem PySem.Spec L2

/-! ### a slot taken out, put in -/
theorem slot_cut : ∀ {σ : St} {ev : Ev} {i : Nat} {o : Option V} {s : Sl}, σ[i]? = some o → ev[i]? = some s → ∃ rest : List Ent, (σ.zip ev).Perm ((o, s) :: rest) ∧ (∀ o' s', ((σ.set i o').zip (ev.set i s')).Perm ((o', s') :: rest)) ∧ ∀ s', (σ.zip (ev.set i s')).Perm ((o, s') :: rest)
  | [], _, _, _, _, h, _ => by simp at h
  | _ :: _, [], _, _, _, _, h => by simp at h
  | a :: σ, b :: ev, 0, o, s, h1, h2 => by
    simp at h1 h2; subst h1; subst h2
    exact ⟨σ.zip ev, .refl _, fun _ _ => .refl _, fun _ => .refl _⟩
  | a :: σ, b :: ev, i + 1, o, s, h1, h2 => by
    obtain ⟨rest, g1, g2, g3⟩ := slot_cut (σ := σ) (ev := ev) (i := i) (by simpa using h1) (by simpa using h2)
    refine ⟨(a, b) :: rest, ?_, fun o' s' => ?_, fun s' => ?_⟩
    · exact ((g1.cons (a, b)).trans (List.Perm.swap ..))
    · exact (((g2 o' s').cons (a, b)).trans (List.Perm.swap ..))
    · exact (((g3 s').cons (a, b)).trans (List.Perm.swap ..))
section
variable {K : PySem.W.Frag} {H : Hp} {σ : St} {ev : Ev} {l : List Ent} {i : Nat} {o : Option V} {s : Sl}
theorem Rp.slot (h1 : σ[i]? = some o) (h2 : ev[i]? = some s) (h : Rp K H (σ.zip ev ++ l)) : Rp K H ((o, s) :: (σ.zip (ev.set i .un) ++ l)) := by
  obtain ⟨rest, g1, _, g3⟩ := slot_cut h1 h2
  have a : Rp K H ((o, s) :: (rest ++ l)) := h.perm (g1.append_right l)
  have b : Rp K H ((o, .un) :: (o, s) :: (rest ++ l)) := a.un
  refine b.perm ((List.Perm.swap ..).trans (List.Perm.cons _ ?_))
  exact (((g3 .un).append_right l).symm)
theorem Rp.put (h1 : i < σ.length) (hl : ev.length = σ.length) {o' : Option V} {s' : Sl} (h : Rp K H ((o', s') :: (σ.zip ev ++ l))) : Rp K H ((σ.set i o').zip (ev.set i s') ++ l) := by
  obtain ⟨rest, g1, g2, _⟩ := slot_cut (σ := σ) (ev := ev) (List.getElem?_eq_getElem h1) (List.getElem?_eq_getElem (by rw [hl]; exact h1))
  have a : Rp K H ((o', s') :: (_ :: rest ++ l)) := h.perm (List.Perm.cons _ (g1.append_right l))
  have b : Rp K H ((o', s') :: (rest ++ l)) := a.sub (List.Sublist.cons_cons _ (List.sublist_cons_self _ _))
  exact b.perm ((g2 o' s').append_right l).symm
theorem Rp.putS (h1 : σ[i]? = some o) (hl : ev.length = σ.length) {s' : Sl} (h : Rp K H ((o, s') :: (σ.zip ev ++ l))) : Rp K H (σ.zip (ev.set i s') ++ l) := by
  have hi : i < σ.length := (List.getElem?_eq_some_iff.mp h1).1
  have := Rp.put hi hl h
  have e : σ.set i o = σ := by
    obtain ⟨_, e⟩ := List.getElem?_eq_some_iff.mp h1
    rw [← e]; exact List.set_getElem_self ..
  rw [e] at this
  exact this
/-- what was un there is the same -/
theorem Rp.putU (h1 : σ[i]? = some o) (hl : ev.length = σ.length) {s' : Sl} (h : Rp K H ((o, s') :: (σ.zip (ev.set i .un) ++ l))) : Rp K H (σ.zip (ev.set i s') ++ l) := by
  have := Rp.putS h1 (by rw [List.length_set]; exact hl) h
  rw [List.set_set] at this
  exact this
theorem slot_some (h1 : ev[i]? = some s) (hs : s.kd ≠ none) (hl : ev.length = σ.length) (h : Rp K H (σ.zip ev ++ l)) : ∃ v, σ[i]? = some (some v) := by
  obtain ⟨F, A, c⟩ := h
  have hi : i < σ.length := by rw [← hl]; exact (List.getElem?_eq_some_iff.mp h1).1
  obtain ⟨A', _, h⟩ := c.sep.mem (List.mem_append_left _ (zip_mem (List.getElem?_eq_getElem hi) h1))
  unfold RS at h
  cases q : s.kd with
  | none => exact absurd q hs
  | some p =>
    rw [q] at h
    obtain ⟨v, e', _⟩ := h
    exact ⟨v, by rw [List.getElem?_eq_getElem hi]; exact congrArg some e'⟩
/-- a value is frozen -/
theorem fz1_ok {t : T} {v : V} {d : D} {ev' : Ev} (hl : ev.length = σ.length) (h : Rp K H (σ.zip ev ++ ((some v, t.sl) :: l))) (ha : t.al? σ v) (hf : fz1 t ev = some (d, ev')) :
    ev'.length = σ.length ∧ Rp K H (σ.zip ev' ++ ((some v, .vl 0 d) :: l)) := by
  cases t with
  | vl k d' =>
    cases hf
    exact ⟨hl, ((h.perm List.perm_middle).frz).perm List.perm_middle.symm⟩
  | al i =>
    have hf : (match ev[i]? with | some (.vl _ d) => some (d, ev.set i (.vl 0 d)) | _ => none) = some (d, ev') := hf
    have ha : σ[i]? = some (some v) := ha
    split at hf
    · rename_i k d' e
      cases hf
      refine ⟨by rw [List.length_set]; exact hl, ?_⟩
      have a := (Rp.slot ha e h).frz.dup
      -- (v,0) (v,0) (zip un) (un) l
      have b : Rp K H ((some v, .vl 0 d) :: (σ.zip (ev.set i .un) ++ ((some v, .vl 0 d) :: l))) := by
        refine (a.perm (List.Perm.cons _ ?_))|>.sub (List.Sublist.cons_cons _ ?_) (l := (some v, .vl 0 d) :: (σ.zip (ev.set i .un) ++ ((some v, .vl 0 d) :: (some v, .un) :: l)))
        · exact List.perm_middle.symm
        · exact sub_app (List.Sublist.cons_cons _ (List.sublist_cons_self _ _))
      exact Rp.putU ha hl b
    · cases hf
/-- frozen entries -/
def frE : List V → List D → List Ent
  | v :: vs, d :: ds => (some v, .vl 0 d) :: frE vs ds
  | _, _ => []
theorem fzs_ok : ∀ {ts : List T} {vs : List V} {ds : List D} {ev ev' : Ev} {l : List Ent}, ev.length = σ.length → Rp K H (σ.zip ev ++ (entTs ts vs ++ l)) → okTs ts vs σ → fzs ts ev = some (ds, ev') →
    ev'.length = σ.length ∧ vs.length = ds.length ∧ Rp K H (σ.zip ev' ++ (frE vs ds ++ l))
  | [], [], ds, ev, ev', l, hl, h, _, hf => by cases hf; exact ⟨hl, rfl, h⟩
  | t :: ts, v :: vs, ds, ev, ev', l, hl, h, ho, hf => by
    unfold fzs at hf
    split at hf
    · rename_i d ev1 e1
      split at hf
      · rename_i ds' ev2 e2
        cases hf
        obtain ⟨g1, g2⟩ := fz1_ok hl h ho.1 e1
        have g3 : Rp K H (σ.zip ev1 ++ (entTs ts vs ++ ((some v, .vl 0 d) :: l))) := g2.perm (List.Perm.append_left _ List.perm_middle.symm)
        obtain ⟨g4, g5, g6⟩ := fzs_ok g1 g3 ho.2 e2
        exact ⟨g4, by simp [g5], g6.perm (List.Perm.append_left _ List.perm_middle)⟩
      · cases hf
    · cases hf
theorem frE_rz : ∀ {vs : List V} {ds : List D} {F H : Hp} {A : AS} {l : List Ent}, vs.length = ds.length → Sep K F H (frE vs ds ++ l) A → Rzs K F vs ds
  | [], [], F, H, A, l, _, _ => rfl
  | v :: vs, d :: ds, F, H, A, l, hl, ⟨A1, A2, h1, h2, h3, ⟨v', e, h4⟩, h5⟩ => by
    cases e
    exact ⟨v, vs, rfl, h4, frE_rz (by simpa using hl) h5⟩
end

/-! ### displays -/
section
variable {K : PySem.W.Frag} {xm : XM} {te ta tb : TE} {tt tu : TT} {tr : TA} {f fa fb : Ev → R T} {fr : Ev → R (List T)}
theorem Rp.newE {F H : Hp} {A : AS} {σ : St} {ev : Ev} {l : List Ent} (c : RpC K F H (σ.zip ev ++ l) A) {v : V} {H' : Hp} {k : Nat} {d : D} (n : New K F H v H' k d) : Rp K H' (σ.zip ev ++ ((some v, .vl k d) :: l)) :=
  (Rp.new c n).perm List.perm_middle.symm
def dTupE (fr : Ev → R (List T)) : Ev → R T := fun ev => (fr ev).bind fun ts ev1 => match fzs ts ev1 with
  | some (ds, ev2) => if ds.length ≤ 10000 then .ok (.vl 0 (.tup ds)) ev2 else .bad
  | none => .bad
def dLstE (fr : Ev → R (List T)) : Ev → R T := fun ev => (fr ev).bind fun ts ev1 => match fzs ts ev1 with
  | some (ds, ev2) => if ds.length ≤ 10000 then .ok (.vl 1 (.lst ds)) ev2 else .bad
  | none => .bad
theorem fr_rz {F H : Hp} {A : AS} {l m : List Ent} {vs : List V} {ds : List D} (h2 : vs.length = ds.length) (c : RpC K F H (m ++ (frE vs ds ++ l)) A) : Rzs K F vs ds :=
  frE_rz (l := []) h2 (c.sep.sub (by
    rw [List.append_nil]
    exact (List.sublist_append_left _ _).trans (List.sublist_append_right m _)))
theorem we_tup (ha : WA K xm tr fr) : WE K xm (tTup tr) (dTupE fr) := by
  intro σ τ H ev hl hr0
  refine Res.bindC (k := fun xs H1 Q => xs.length ≤ sizeLine ∧ ∀ p, H1 p = none → Q (V.ref p) (upd H1 p (.tup xs))) (ha σ τ H ev hl hr0) fun ts vs ev1 H1 _ hl1 hr1 ho1 => ?_
  split
  · rename_i ds ev2 e
    obtain ⟨h1, h2, h3⟩ := fzs_ok hl1 hr1 ho1 e
    split
    · rename_i hz
      intro Q q
      refine ⟨Nat.le_trans (by rw [h2]; exact hz) (by decide), fun p hp => q _ _ h1 ?_ trivial⟩
      obtain ⟨F, A, c⟩ := h3
      refine (Rp.newE c (.tup hp (fr_rz h2 c))).sub (sub_app (List.Sublist.cons_cons _ (List.sublist_append_right _ _)))
    · trivial
  · trivial
theorem we_lst (ha : WA K xm tr fr) : WE K xm (tLst tr) (dLstE fr) := by
  intro σ τ H ev hl hr0
  refine Res.bindC (k := fun xs H1 Q => xs.length ≤ sizeLine ∧ ∀ p, H1 p = none → Q (V.ref p) (upd H1 p (.lst xs))) (ha σ τ H ev hl hr0) fun ts vs ev1 H1 _ hl1 hr1 ho1 => ?_
  split
  · rename_i ds ev2 e
    obtain ⟨h1, h2, h3⟩ := fzs_ok hl1 hr1 ho1 e
    split
    · rename_i hz
      intro Q q
      refine ⟨Nat.le_trans (by rw [h2]; exact hz) (by decide), fun p hp => q _ _ h1 ?_ trivial⟩
      obtain ⟨F, A, c⟩ := h3
      refine (Rp.newE c (.lst hp (fr_rz h2 c))).sub (sub_app (List.Sublist.cons_cons _ (List.sublist_append_right _ _)))
    · trivial
  · trivial
/-- frozen as it comes -/
def dFrz (fa : Ev → R T) : Ev → R T := fun ev => (fa ev).bind fun t ev1 => match fz1 t ev1 with
  | some (d, ev2) => .ok (.vl 0 d) ev2
  | none => .bad
theorem we_frz (ha : WE K xm ta fa) : WE K xm ta (dFrz fa) := by
  intro σ τ H ev hl hr0
  refine Res.imp (Res.bindC (k := fun v H1 Q => Q v H1) (J := iT) (ha σ τ H ev hl hr0) fun t v ev1 H1 _ hl1 hr1 ho1 => ?_) fun Q q => q
  cases e : fz1 t ev1 with
  | none => trivial
  | some p =>
    obtain ⟨d, ev2⟩ := p
    obtain ⟨h1, h2⟩ := fz1_ok hl1 hr1 ho1 e
    exact fun Q q => q v H1 h1 h2 trivial
end

/-! ### a def as a function of data; its promise; its call -/
abbrev FN := List Sl → R (Nat × D)
/-- promise -/
def spD (K : PySem.W.Frag) (xm : XM) (den : FN) : Sp := fun vs H Q E => ∃ (args : List Sl) (τ : List Ent), args.length = vs.length ∧ Rp K H ((vs.map some).zip args ++ τ) ∧ match den args with
  | .ok p fin => ∀ v H', fin.length = args.length → Rp K H' ((some v, .vl p.1 p.2) :: ((vs.map some).zip fin ++ τ)) → Q v H'
  | .exc n d fin => xm.on ∧ ∀ dd v H', fin.length = args.length → Rp K H' ((some v, .vl 0 d) :: ((vs.map some).zip fin ++ τ)) → H' dd = some (.xd [("value", v)]) → E (.ref (xm.cA n)) (some dd) H'
  | .bad => False
/-- what is handed in: frozen, or (true) lent -/
def pass1 : Bool → T → Ev → Option (Sl × Ev)
  | false, t, ev => (fz1 t ev).map fun p => (.vl 0 p.1, p.2)
  | true, .al i, ev => match ev[i]? with
    | some (.vl k d) => some (.io k d, ev.set i .un)
    | some (.io k d) => some (.io k d, ev.set i .un)
    | _ => none
  | true, .vl _ _, _ => none
def passN : List Bool → List T → Ev → Option (List Sl × Ev)
  | [], [], ev => some ([], ev)
  | b :: bs, t :: ts, ev => match pass1 b t ev with
    | some (s, ev1) => (match passN bs ts ev1 with
      | some (ss, ev2) => some (s :: ss, ev2)
      | none => none)
    | none => none
  | _, _, _ => none
/-- what was lent comes back -/
def back1 (o : Option Sl) (s : Sl) : Sl := match o, s with
  | some (.vl _ _), .io k d => .vl k d
  | _, s => s
def backN : List Bool → List T → Ev → List Sl → Ev → Ev
  | true :: bs, .al i :: ts, o, s :: fin, ev => backN bs ts o fin (match ev[i]? with
    | some .un => ev.set i (back1 o[i]? s)
    | _ => ev)
  | _ :: bs, _ :: ts, o, _ :: fin, ev => backN bs ts o fin ev
  | _, _, _, _, ev => ev
section
variable {K : PySem.W.Frag} {xm : XM} {H : Hp} {σ : St}
def entS (vs : List V) (ss : List Sl) : List Ent := (vs.map some).zip ss
theorem passN_ok : ∀ {bs : List Bool} {ts : List T} {vs : List V} {args : List Sl} {ev ev' : Ev} {l : List Ent}, ev.length = σ.length → Rp K H (σ.zip ev ++ (entTs ts vs ++ l)) → okTs ts vs σ → passN bs ts ev = some (args, ev') →
    ev'.length = σ.length ∧ args.length = vs.length ∧ Rp K H (σ.zip ev' ++ ((vs.map some).zip args ++ l))
  | [], [], [], args, ev, ev', l, hl, h, _, hf => by cases hf; exact ⟨hl, rfl, h⟩
  | b :: bs, t :: ts, v :: vs, args, ev, ev', l, hl, h, ho, hf => by
    unfold passN at hf
    split at hf
    · rename_i s ev1 e1
      split at hf
      · rename_i ss ev2 e2
        cases hf
        have key : ev1.length = σ.length ∧ Rp K H (σ.zip ev1 ++ ((some v, s) :: (entTs ts vs ++ l))) := by
          cases b with
          | false =>
            have e1 : ((fz1 t ev).map fun p => (Sl.vl 0 p.1, p.2)) = some (s, ev1) := e1
            cases e3 : fz1 t ev with
            | none => rw [e3] at e1; cases e1
            | some p =>
              rw [e3] at e1
              cases e1
              exact fz1_ok hl h ho.1 e3
          | true =>
            cases t with
            | vl k d => cases e1
            | al i =>
              have e1 : (match ev[i]? with | some (.vl k d) => some (Sl.io k d, ev.set i .un) | some (.io k d) => some (Sl.io k d, ev.set i .un) | _ => none) = some (s, ev1) := e1
              have ha : σ[i]? = some (some v) := ho.1
              have h' : Rp K H (σ.zip ev ++ (entTs ts vs ++ l)) := h.sub (sub_app (List.sublist_cons_self _ _))
              split at e1
              · rename_i k d e
                cases e1
                exact ⟨by rw [List.length_set]; exact hl, (Rp.io_vl.mpr (Rp.slot ha e h')).perm List.perm_middle.symm⟩
              · rename_i k d e
                cases e1
                exact ⟨by rw [List.length_set]; exact hl, (Rp.slot ha e h').perm List.perm_middle.symm⟩
              · cases e1
        obtain ⟨k1, k2⟩ := key
        have k3 : Rp K H (σ.zip ev1 ++ (entTs ts vs ++ ((some v, s) :: l))) := k2.perm (List.Perm.append_left _ List.perm_middle.symm)
        obtain ⟨g1, g2, g3⟩ := passN_ok k1 k3 ho.2 e2
        exact ⟨g1, by simp [g2], g3.perm (List.Perm.append_left _ List.perm_middle)⟩
      · cases hf
    · cases hf
theorem back1_ok {o : Option V} {o' : Option Sl} {s : Sl} {l : List Ent} (h : Rp K H ((o, s) :: l)) : Rp K H ((o, back1 o' s) :: l) := by
  unfold back1
  split
  · exact Rp.io_vl.mp h
  · exact h
theorem backN_ok : ∀ {bs : List Bool} {ts : List T} {vs : List V} {fin : List Sl} {o ev : Ev} {l : List Ent}, ev.length = σ.length → Rp K H (σ.zip ev ++ ((vs.map some).zip fin ++ l)) → okTs ts vs σ →
    (backN bs ts o fin ev).length = σ.length ∧ Rp K H (σ.zip (backN bs ts o fin ev) ++ l)
  | [], ts, vs, fin, o, ev, l, hl, h, ho => by
    unfold backN
    exact ⟨hl, h.sub (sub_app (List.sublist_append_right _ _))⟩
  | b :: bs, [], vs, fin, o, ev, l, hl, h, ho => by
    have e : backN (b :: bs) [] o fin ev = ev := by cases b <;> rfl
    rw [e]
    exact ⟨hl, h.sub (sub_app (List.sublist_append_right _ _))⟩
  | b :: bs, t :: ts, [], fin, o, ev, l, hl, h, ho => ho.elim
  | b :: bs, t :: ts, v :: vs, [], o, ev, l, hl, h, ho => by
    have e : backN (b :: bs) (t :: ts) o [] ev = ev := by cases b <;> cases t <;> rfl
    rw [e]
    exact ⟨hl, h.sub (sub_app (List.sublist_append_right _ _))⟩
  | b :: bs, t :: ts, v :: vs, s :: fin, o, ev, l, hl, h, ho => by
    have h0 : Rp K H (σ.zip ev ++ ((some v, s) :: ((vs.map some).zip fin ++ l))) := h
    have drop : Rp K H (σ.zip ev ++ ((vs.map some).zip fin ++ l)) := h0.sub (sub_app (List.sublist_cons_self _ _))
    cases b with
    | false =>
      have e : backN (false :: bs) (t :: ts) o (s :: fin) ev = backN bs ts o fin ev := by cases t <;> rfl
      rw [e]
      exact backN_ok hl drop ho.2
    | true =>
      cases t with
      | vl k d =>
        have e : backN (true :: bs) (.vl k d :: ts) o (s :: fin) ev = backN bs ts o fin ev := rfl
        rw [e]
        exact backN_ok hl drop ho.2
      | al i =>
        show (backN bs ts o fin (match ev[i]? with | some .un => ev.set i (back1 o[i]? s) | _ => ev)).length = _ ∧ Rp K H (σ.zip (backN bs ts o fin (match ev[i]? with | some .un => ev.set i (back1 o[i]? s) | _ => ev)) ++ l)
        split
        · rename_i e
          have ha : σ[i]? = some (some v) := ho.1
          refine backN_ok (by rw [List.length_set]; exact hl) ?_ ho.2
          exact Rp.putS ha hl (back1_ok (h0.perm List.perm_middle))
        · exact backN_ok hl drop ho.2
end
theorem perm_call {x : Ent} {a b τ : List Ent} : (x :: (a ++ (b ++ τ))).Perm (b ++ (a ++ (x :: τ))) := by
  have h1 : (b ++ (a ++ (x :: τ))).Perm (b ++ (x :: (a ++ τ))) := List.Perm.append_left _ List.perm_middle
  have h2 : (b ++ (x :: (a ++ τ))).Perm (x :: (b ++ (a ++ τ))) := List.perm_middle
  have h3 : (b ++ (a ++ τ)).Perm (a ++ (b ++ τ)) := by
    rw [← List.append_assoc, ← List.append_assoc]
    exact List.perm_append_comm.append_right τ
  exact ((h1.trans h2).trans (h3.cons x)).symm
def dCall (den : FN) (bs : List Bool) (fr : Ev → R (List T)) : Ev → R T := fun ev => (fr ev).bind fun ts ev1 => match passN bs ts ev1 with
  | some (args, ev2) => (match den args with
    | .ok p fin => if fin.length = args.length then .ok (.vl p.1 p.2) (backN bs ts ev1 fin ev2) else .bad
    | .exc n d fin => if fin.length = args.length then .exc n d (backN bs ts ev1 fin ev2) else .bad
    | .bad => .bad)
  | none => .bad
section
variable {K : PySem.W.Frag} {xm : XM} {te : TE} {tr : TA} {fr : Ev → R (List T)} {den : FN} {bs : List Bool}
theorem we_call (ha : WA K xm tr fr) (E : St → XK) (hE : xm.on → E = xm.E) (ht : ∀ σ H Q, (tr σ H fun vs H1 => spD K xm den vs H1 Q (E σ)) → te σ H Q) : WE K xm te (dCall den bs fr) := by
  intro σ τ H ev hl hr0
  refine Res.imp (c := fun Q => tr σ H fun vs H1 => spD K xm den vs H1 Q (E σ)) (Res.bindC (k := fun vs H1 Q => spD K xm den vs H1 Q (E σ)) (ha σ τ H ev hl hr0) fun ts vs ev1 H1 _ hl1 hr1 ho1 => ?_) fun Q q => ht σ H Q q
  split
  · rename_i args ev2 e
    obtain ⟨h1, h2, h3⟩ := passN_ok hl1 hr1 ho1 e
    have h4 : Rp K H1 ((vs.map some).zip args ++ (σ.zip ev2 ++ τ)) := h3.perm (by
      rw [← List.append_assoc, ← List.append_assoc]
      exact (List.perm_append_comm).append_right τ)
    split
    · rename_i p fin e2
      split
      · rename_i hf
        intro Q q
        refine ⟨args, σ.zip ev2 ++ τ, h2, h4, ?_⟩
        rw [e2]
        intro v H' hl3 h5
        have h6 : Rp K H' (σ.zip ev2 ++ ((vs.map some).zip fin ++ ((some v, .vl p.1 p.2) :: τ))) := h5.perm perm_call
        obtain ⟨g1, g2⟩ := backN_ok (bs := bs) (o := ev1) h1 h6 ho1
        exact q v H' g1 g2 trivial
      · trivial
    · rename_i n d fin e2
      split
      · rename_i hf
        intro ho hx Q
        refine ⟨args, σ.zip ev2 ++ τ, h2, h4, ?_⟩
        rw [e2]
        refine ⟨ho, fun dd v H' hl3 h5 hd => ?_⟩
        have h6 : Rp K H' (σ.zip ev2 ++ ((vs.map some).zip fin ++ ((some v, .vl 0 d) :: τ))) := h5.perm perm_call
        obtain ⟨g1, g2⟩ := backN_ok (bs := bs) (o := ev1) h1 h6 ho1
        rw [hE ho]
        exact hx dd v H' g1 (g2.perm List.perm_middle) hd
      · trivial
    · trivial
  · trivial
end
end DN

set_option Elab.async false
set_option linter.all false
set_option maxRecDepth 100000
set_option maxHeartbeats 1000000
namespace DN
open PySem PySem.Spec L2

inductive Out where
  | nx | bk | ct | rt (t : T)
def Keep (P : List Nat) (σ σ' : St) : Prop := σ'.length = σ.length ∧ ∀ i ∈ P, σ'[i]? = σ[i]?
theorem Keep.refl (P : List Nat) (σ : St) : Keep P σ σ := ⟨rfl, fun _ _ => rfl⟩
theorem Keep.trans {P : List Nat} {σ σ1 σ2 : St} (a : Keep P σ σ1) (b : Keep P σ1 σ2) : Keep P σ σ2 := ⟨b.1.trans a.1, fun i hi => (b.2 i hi).trans (a.2 i hi)⟩
theorem Keep.set {P : List Nat} {σ : St} {i : Nat} {o : Option V} (h : i ∉ P) : Keep P σ (σ.set i o) := ⟨List.length_set, fun j hj => List.getElem?_set_ne (by rintro rfl; exact h hj)⟩
section
variable (K : PySem.W.Frag) (xm : XM) (P : List Nat)
/-- what is wished behind a statement -/
def SW (σ : St) (τ : List Ent) (r : R Out) (D : Ends) : Prop := match r with
  | .ok .nx ev' => ∀ σ' H', Keep P σ σ' → ev'.length = σ'.length → Rp K H' (σ'.zip ev' ++ τ) → D.nx σ' H'
  | .ok .bk ev' => ∀ σ' H', Keep P σ σ' → ev'.length = σ'.length → Rp K H' (σ'.zip ev' ++ τ) → D.bk σ' H'
  | .ok .ct ev' => ∀ σ' H', Keep P σ σ' → ev'.length = σ'.length → Rp K H' (σ'.zip ev' ++ τ) → D.ct σ' H'
  | .ok (.rt t) ev' => ∀ v σ' H', Keep P σ σ' → ev'.length = σ'.length → Rp K H' (σ'.zip ev' ++ ((some v, t.sl) :: τ)) → t.al? σ' v → D.rt v H'
  | .exc n d ev' => xm.on ∧ ∀ dd v σ' H', Keep P σ σ' → ev'.length = σ'.length → Rp K H' ((some v, .vl 0 d) :: (σ'.zip ev' ++ τ)) → H' dd = some (.xd [("value", v)]) → xm.E σ' (.ref (xm.cA n)) (some dd) H'
  | .bad => False
def SRes (σ : St) (τ : List Ent) (r : R Out) (c : Ends → Prop) : Prop := ∀ D, SW K xm P σ τ r D → c D
def WS (ts : TS) (g : Ev → R Out) : Prop := ∀ σ τ H ev, ev.length = σ.length → Rp K H (σ.zip ev ++ τ) → SRes K xm P σ τ (g ev) (fun D => ts D σ H)
end
/-- alike but for the slots O -/
def Agr (O : List Nat) (σ σ' : St) : Prop := σ'.length = σ.length ∧ ∀ i, i ∉ O → σ'[i]? = σ[i]?
theorem Agr.refl (O : List Nat) (σ : St) : Agr O σ σ := ⟨rfl, fun _ _ => rfl⟩
theorem Agr.trans {O O' : List Nat} {σ σ1 σ2 : St} (a : Agr O σ σ1) (b : Agr O' σ1 σ2) : Agr (O ++ O') σ σ2 :=
  ⟨b.1.trans a.1, fun i hi => (b.2 i fun h => hi (List.mem_append_right _ h)).trans (a.2 i fun h => hi (List.mem_append_left _ h))⟩
theorem Agr.set {σ : St} {i : Nat} {o : Option V} : Agr [i] σ (σ.set i o) := ⟨List.length_set, fun j hj => List.getElem?_set_ne (by rintro rfl; exact hj (List.mem_singleton.mpr rfl))⟩
theorem Agr.keep {O P : List Nat} {σ σ' : St} (a : Agr O σ σ') (h : ∀ i ∈ P, i ∉ O) : Keep P σ σ' := ⟨a.1, fun i hi => a.2 i (h i hi)⟩
/-- a target: a frozen value is bound -/
def WG (K : PySem.W.Frag) (O : List Nat) (g : TG) (b : D → Ev → Option Ev) : Prop := ∀ σ τ H ev v d ev', ev.length = σ.length → Rp K H (σ.zip ev ++ ((some v, .vl 0 d) :: τ)) → b d ev = some ev' → ∀ Q : St → Hp → Prop,
  (∀ σ' H', Agr O σ σ' → ev'.length = σ'.length → Rp K H' (σ'.zip ev' ++ τ) → Q σ' H') → g v σ H Q
section
variable {K : PySem.W.Frag} {xm : XM} {P : List Nat} {α β γ δ : Type} {I : Ik α γ} {σ : St} {τ : List Ent}
theorem SW.weak {e : List Ent} {r : R Out} {D : Ends} (h : SW K xm P σ τ r D) : SW K xm P σ (e ++ τ) r D := by
  cases r with
  | ok o ev' =>
    cases o with
    | nx => exact fun σ' H' k l hr => h σ' H' k l (hr.sub (sub_app (List.sublist_append_right e τ)))
    | bk => exact fun σ' H' k l hr => h σ' H' k l (hr.sub (sub_app (List.sublist_append_right e τ)))
    | ct => exact fun σ' H' k l hr => h σ' H' k l (hr.sub (sub_app (List.sublist_append_right e τ)))
    | rt t => exact fun v σ' H' k l hr => h v σ' H' k l (hr.sub (sub_app (List.Sublist.cons_cons _ (List.sublist_append_right e τ))))
  | exc n d ev' => exact ⟨h.1, fun dd v σ' H' k l hr hd => h.2 dd v σ' H' k l (hr.sub (List.Sublist.cons_cons _ (sub_app (List.sublist_append_right e τ)))) hd⟩
  | bad => exact h
theorem SW.keep {σ' : St} {r : R Out} {D : Ends} (k : Keep P σ σ') (h : SW K xm P σ τ r D) : SW K xm P σ' τ r D := by
  cases r with
  | ok o ev' =>
    cases o with
    | nx => exact fun σ' H' k' l hr => h σ' H' (k.trans k') l hr
    | bk => exact fun σ' H' k' l hr => h σ' H' (k.trans k') l hr
    | ct => exact fun σ' H' k' l hr => h σ' H' (k.trans k') l hr
    | rt t => exact fun v σ' H' k' l hr => h v σ' H' (k.trans k') l hr
  | exc n d ev' => exact ⟨h.1, fun dd v σ' H' k' l hr hd => h.2 dd v σ' H' (k.trans k') l hr hd⟩
  | bad => exact h
/-- an expression, then what follows in the same state -/
theorem SRes.ofC {m : R α} {f : α → Ev → R Out} {c1 : (γ → Hp → Prop) → Prop} {k : γ → Hp → Ends → Prop} (h1 : Res K xm I σ τ m c1)
    (h2 : ∀ a g ev' H', m = .ok a ev' → ev'.length = σ.length → Rp K H' (σ.zip ev' ++ (I.ent a g ++ τ)) → I.ok a g σ → SRes K xm P σ τ (f a ev') (k g H')) :
    SRes K xm P σ τ (m.bind f) (fun D => c1 fun g H' => k g H' D) := by
  intro D w
  cases m with
  | bad => exact w.elim
  | exc n d ev' => exact h1 w.1 (fun dd v H' hl hr hd => w.2 dd v σ H' (Keep.refl _ _) hl hr hd) _
  | ok a ev' => exact h1 _ fun g H' hl hr ho => h2 a g ev' H' rfl hl hr ho D w
theorem SRes.of {m : R α} {f : α → Ev → R Out} {c1 : (γ → Hp → Prop) → Prop} {k : γ → Hp → Ends → Prop} (h1 : Res K xm I σ τ m c1)
    (h2 : ∀ a g ev' H', m = .ok a ev' → ev'.length = σ.length → Rp K H' (σ.zip ev' ++ (I.ent a g ++ τ)) → I.ok a g σ → SRes K xm P σ (I.ent a g ++ τ) (f a ev') (k g H')) :
    SRes K xm P σ τ (m.bind f) (fun D => c1 fun g H' => k g H' D) :=
  SRes.ofC h1 fun a g ev' H' e hl hr ho D w => h2 a g ev' H' e hl hr ho D w.weak
end

section
variable {K : PySem.W.Frag} {xm : XM} {P : List Nat} {α β γ δ : Type} {I : Ik α γ} {σ : St} {τ : List Ent}
/-- the wish at hand, an expression evaluated in a larger state -/
theorem SW.run {m : R α} {f : α → Ev → R Out} {c1 : (γ → Hp → Prop) → Prop} {k : γ → Hp → Prop} {e : List Ent} {D : Ends} (h1 : Res K xm I σ (e ++ τ) m c1) (w : SW K xm P σ τ (m.bind f) D)
    (h2 : ∀ a g ev' H', ev'.length = σ.length → Rp K H' (σ.zip ev' ++ (I.ent a g ++ (e ++ τ))) → I.ok a g σ → SW K xm P σ τ (f a ev') D → k g H') : c1 k := by
  cases m with
  | bad => exact w.elim
  | exc n d ev' => exact h1 w.1 (fun dd v H' hl hr hd => w.2 dd v σ H' (Keep.refl _ _) hl (hr.sub (List.Sublist.cons_cons _ (sub_app (List.sublist_append_right e τ)))) hd) _
  | ok a ev' => exact h1 _ fun g H' hl hr ho => h2 a g ev' H' hl hr ho w
end

def dPass : Ev → R Out := fun ev => .ok .nx ev
def dBrk : Ev → R Out := fun ev => .ok .bk ev
def dCnt : Ev → R Out := fun ev => .ok .ct ev
def dBad : Ev → R Out := fun _ => .bad
def dSeq (g1 g2 : Ev → R Out) : Ev → R Out := fun ev => (g1 ev).bind fun o ev1 => match o with
  | .nx => g2 ev1
  | o => .ok o ev1
def dIfS (fc : Ev → R Bool) (g1 g2 : Ev → R Out) : Ev → R Out := fun ev => (fc ev).bind fun b ev1 => if b = true then g1 ev1 else g2 ev1
def dDrop (fa : Ev → R T) : Ev → R Out := fun ev => (fa ev).bind fun _ ev1 => .ok .nx ev1
def dRet (fa : Ev → R T) : Ev → R Out := fun ev => (fa ev).bind fun t ev1 => .ok (.rt t) ev1
def dRetN : Ev → R Out := fun ev => .ok (.rt (.vl 0 .non)) ev
def dSet (i : Nat) (fa : Ev → R T) : Ev → R Out := fun ev => (fa ev).bind fun t ev1 => match t with
  | .vl k d => if i < ev1.length then .ok .nx (ev1.set i (.vl k d)) else .bad
  | .al j => (match fz1 (.al j) ev1 with
    | some (d, ev2) => if i < ev2.length then .ok .nx (ev2.set i (.vl 0 d)) else .bad
    | none => .bad)
def bName (i : Nat) : D → Ev → Option Ev := fun d ev => if i < ev.length then some (ev.set i (.vl 0 d)) else none
def bNil : List D → Ev → Option Ev := fun ds ev => match ds with
  | [] => some ev
  | _ => none
def bCons (b : D → Ev → Option Ev) (bs : List D → Ev → Option Ev) : List D → Ev → Option Ev := fun ds ev => match ds with
  | d :: r => (match b d ev with
    | some ev1 => bs r ev1
    | none => none)
  | [] => none
def bTup (n : Nat) (bs : List D → Ev → Option Ev) : D → Ev → Option Ev := fun d ev => match d with
  | .tup ds => if ds.length = n then bs ds ev else none
  | _ => none
def dAsg (b : D → Ev → Option Ev) (fa : Ev → R T) : Ev → R Out := fun ev => (fa ev).bind fun t ev1 => match fz1 t ev1 with
  | some (d, ev2) => (match b d ev2 with
    | some ev3 => .ok .nx ev3
    | none => .bad)
  | none => .bad
/-- x op= e, x frozen -/
def dAug (i : Nat) (f : D → D → Option (Nat × D)) (fa : Ev → R T) : Ev → R Out := fun ev => match ev[i]? with
  | some (.vl 0 d) => (fa ev).bind fun t ev1 => (match t.rd ev1 with
    | some e => (match f d e with
      | some (k, z) => if i < ev1.length then .ok .nx (ev1.set i (.vl k z)) else .bad
      | none => .bad)
    | none => .bad)
  | _ => .bad
/-- a, b = e1, e2 with plain names -/
def dPar (i j : Nat) (fr : Ev → R (List T)) : Ev → R Out := fun ev => (fr ev).bind fun ts ev1 => match ts with
  | [t, u] => (match fz1 t ev1 with
    | some (d, ev2) => (match fz1 u ev2 with
      | some (e, ev3) => if i < ev3.length ∧ j < ev3.length then .ok .nx ((ev3.set i (.vl 0 d)).set j (.vl 0 e)) else .bad
      | none => .bad)
    | none => .bad)
  | _ => .bad
section
variable {K : PySem.W.Frag} {xm : XM} {P : List Nat} {te ta tb : TE} {tt : TT} {tr : TA} {t u : TS} {g : TG} {gs : TGs} {b : D → Ev → Option Ev} {bs : List D → Ev → Option Ev} {fa fb : Ev → R T} {fr : Ev → R (List T)} {ft : Ev → R Bool} {g1 g2 : Ev → R Out}
theorem ws_pass : WS K xm P tNext dPass := fun σ τ H ev hl hr D w => w σ H (Keep.refl _ _) hl hr
theorem ws_brk : WS K xm P tBreak dBrk := fun σ τ H ev hl hr D w => w σ H (Keep.refl _ _) hl hr
theorem ws_cnt : WS K xm P tCont dCnt := fun σ τ H ev hl hr D w => w σ H (Keep.refl _ _) hl hr
theorem ws_bad {ts : TS} : WS K xm P ts dBad := fun σ τ H ev hl hr D w => w.elim
theorem ws_seq (h1 : WS K xm P t g1) (h2 : WS K xm P u g2) : WS K xm P (tSeq t u) (dSeq g1 g2) := by
  intro σ τ H ev hl hr D w
  have q := h1 σ τ H ev hl hr
  unfold dSeq at w
  refine q { D with nx := u D } ?_
  cases e : g1 ev with
  | bad => rw [e] at w; exact w.elim
  | exc n d ev' => rw [e] at w; exact w
  | ok o ev1 =>
    rw [e] at w
    cases o with
    | nx => exact fun σ' H' k l hr' => h2 σ' τ H' ev1 l hr' D (SW.keep k w)
    | bk => exact w
    | ct => exact w
    | rt t => exact w
theorem ws_if (hc : WT K xm tt ft) (h1 : WS K xm P t g1) (h2 : WS K xm P u g2) : WS K xm P (tIfS tt t u) (dIfS ft g1 g2) := by
  intro σ τ H ev hl hr0
  refine SRes.of (k := fun b H1 D => if b = true then t D σ H1 else u D σ H1) (hc σ τ H ev hl hr0) fun b b' ev1 H1 _ hl1 hr1 ho1 => ?_
  obtain rfl : b = b' := ho1
  cases b with
  | true => exact h1 σ _ H1 ev1 hl1 hr1
  | false => exact h2 σ _ H1 ev1 hl1 hr1
theorem ws_drop (ha : WE K xm ta fa) : WS K xm P (tDrop ta) (dDrop fa) := by
  intro σ τ H ev hl hr0
  refine SRes.ofC (k := fun _ H1 D => D.nx σ H1) (ha σ τ H ev hl hr0) fun t v ev1 H1 _ hl1 hr1 ho1 => ?_
  exact fun D w => w σ H1 (Keep.refl _ _) hl1 (hr1.sub (sub_app (List.sublist_append_right _ _)))
theorem ws_ret (ha : WE K xm ta fa) : WS K xm P (tRet ta) (dRet fa) := by
  intro σ τ H ev hl hr0
  refine SRes.ofC (k := fun v H1 D => D.rt v H1) (ha σ τ H ev hl hr0) fun t v ev1 H1 _ hl1 hr1 ho1 => ?_
  exact fun D w => w v σ H1 (Keep.refl _ _) hl1 hr1 ho1
theorem Rp.scal {H : Hp} {σ : St} {ev : Ev} {τ : List Ent} {v : V} {d : D} (hr : Rp K H (σ.zip ev ++ τ)) (h : ∀ F, Rz K F v d) : Rp K H (σ.zip ev ++ ((some v, .vl 0 d) :: τ)) := by
  obtain ⟨F, A, c⟩ := hr
  exact (Rp.new c (.same (h F))).perm List.perm_middle.symm
theorem ws_retN : WS K xm P tRetN dRetN := fun σ τ H ev hl hr D w => w .non σ H (Keep.refl _ _) hl (hr.scal fun _ => rfl) trivial
theorem put_ok {H : Hp} {σ : St} {ev : Ev} {τ : List Ent} {v : V} {s : Sl} {i : Nat} (hl : ev.length = σ.length) (hi : i < ev.length) (h : Rp K H (σ.zip ev ++ ((some v, s) :: τ))) :
    (ev.set i s).length = (σ.set i (some v)).length ∧ Rp K H ((σ.set i (some v)).zip (ev.set i s) ++ τ) :=
  ⟨by rw [List.length_set, List.length_set]; exact hl, Rp.put (by rw [← hl]; exact hi) hl (h.perm List.perm_middle)⟩
theorem ws_set {i : Nat} (hi : i ∉ P) (ha : WE K xm ta fa) : WS K xm P (tAsg ta (gName i)) (dSet i fa) := by
  intro σ τ H ev hl hr0
  refine SRes.ofC (k := fun v H1 D => D.nx (σ.set i (some v)) H1) (ha σ τ H ev hl hr0) fun t v ev1 H1 _ hl1 hr1 ho1 => ?_
  cases t with
  | vl k d =>
    intro D w
    have w : SW K xm P σ τ (if i < ev1.length then .ok .nx (ev1.set i (.vl k d)) else .bad) D := w
    split at w
    · rename_i hlt
      obtain ⟨h1, h2⟩ := put_ok hl1 hlt hr1
      exact w _ _ (Keep.set hi) h1 h2
    · exact w.elim
  | al j =>
    intro D w
    have w : SW K xm P σ τ (match fz1 (.al j) ev1 with | some (d, ev2) => if i < ev2.length then .ok .nx (ev2.set i (.vl 0 d)) else .bad | none => .bad) D := w
    split at w
    · rename_i d ev2 e
      split at w
      · rename_i hlt
        obtain ⟨g1, g2⟩ := fz1_ok hl1 hr1 ho1 e
        obtain ⟨h1, h2⟩ := put_ok g1 hlt g2
        exact w _ _ (Keep.set hi) h1 h2
      · exact w.elim
    · exact w.elim
theorem wg_name {i : Nat} : WG K [i] (gName i) (bName i) := by
  intro σ τ H ev v d ev' hl hr hb Q q
  unfold bName at hb
  split at hb
  · rename_i hlt
    cases hb
    obtain ⟨h1, h2⟩ := put_ok hl hlt hr
    exact q _ _ Agr.set h1 h2
  · cases hb
def WGs (K : PySem.W.Frag) (O : List Nat) (g : TGs) (b : List D → Ev → Option Ev) : Prop := ∀ σ τ H ev vs ds ev', ev.length = σ.length → vs.length = ds.length → Rp K H (σ.zip ev ++ (frE vs ds ++ τ)) → b ds ev = some ev' → ∀ Q : St → Hp → Prop,
  (∀ σ' H', Agr O σ σ' → ev'.length = σ'.length → Rp K H' (σ'.zip ev' ++ τ) → Q σ' H') → g vs σ H Q
theorem wgs_nil : WGs K [] gNil bNil := by
  intro σ τ H ev vs ds ev' hl hv hr hb Q q
  cases ds with
  | nil =>
    cases hb
    cases vs with
    | nil => exact ⟨rfl, q σ H (Agr.refl _ _) hl hr⟩
    | cons _ _ => cases hv
  | cons _ _ => cases hb
theorem wgs_cons {O O' : List Nat} (h1 : WG K O g b) (h2 : WGs K O' gs bs) : WGs K (O ++ O') (gCons g gs) (bCons b bs) := by
  intro σ τ H ev vs ds ev' hl hv hr hb Q q
  cases ds with
  | nil => cases hb
  | cons d ds =>
    cases vs with
    | nil => cases hv
    | cons v vs =>
      have hb : (match b d ev with | some ev1 => bs ds ev1 | none => none) = some ev' := hb
      split at hb
      · rename_i ev1 e
        refine ⟨v, vs, rfl, ?_⟩
        refine h1 σ (frE vs ds ++ τ) H ev v d ev1 hl hr e _ fun σ1 H1 k1 l1 r1 => ?_
        exact h2 σ1 τ H1 ev1 vs ds ev' l1 (by simpa using hv) r1 hb Q fun σ2 H2 k2 l2 r2 => q σ2 H2 (k1.trans k2) l2 r2
      · cases hb
/-- frozen items laid out -/
theorem Rp.items {H F : Hp} {A : AS} : ∀ {vs : List V} {ds : List D} {l : List Ent}, Rzs K F vs ds → RpC K F H l A → RpC K F H (frE vs ds ++ l) A
  | vs, [], l, h, c => by cases (show vs = [] from h); exact c
  | vs, d :: ds, l, h, c => by
    obtain ⟨x, r, rfl, h2, h3⟩ := h
    have c2 := Rp.items h3 c
    exact ⟨c2.sub, c2.own, fun _ => False, A, fun _ h => h.elim, fun _ h => h, fun _ h => h.elim, ⟨x, rfl, h2⟩, c2.sep⟩
theorem wg_tup {n : Nat} {O : List Nat} (h : WGs K O gs bs) : WG K O (gTup K n gs) (bTup n bs) := by
  intro σ τ H ev v d ev' hl hr hb Q q
  cases d with
  | tup ds =>
    have hb : (if ds.length = n then bs ds ev else none) = some ev' := hb
    split at hb
    · rename_i hn
      obtain ⟨F, A, c⟩ := hr
      obtain ⟨A', _, v', e, hz⟩ := c.sep.mem (List.mem_append_right (σ.zip ev) (List.mem_cons_self (a := ((some v, Sl.vl 0 (.tup ds)) : Ent)) (l := τ)))
      cases e
      obtain ⟨a, xs, rfl, h1, h2⟩ := hz
      refine ⟨a, xs, rfl, sqT_le c.sub h1, by rw [h2.len]; exact hn, ?_⟩
      have c2 : RpC K F H (σ.zip ev ++ τ) A := ⟨c.sub, c.own, c.sep.sub (sub_app (List.sublist_cons_self _ _))⟩
      have c3 := Rp.items h2 c2
      refine h σ τ H ev xs ds ev' hl h2.len ?_ hb Q q
      exact Rp.perm (l := frE xs ds ++ (σ.zip ev ++ τ)) (by
        rw [← List.append_assoc, ← List.append_assoc]
        exact List.perm_append_comm.append_right τ) ⟨F, A, c3⟩
    · cases hb
  | _ => cases hb
theorem ws_asg {O : List Nat} (ho : ∀ i ∈ P, i ∉ O) (ha : WE K xm ta fa) (hg : WG K O g b) : WS K xm P (tAsg ta g) (dAsg b fa) := by
  intro σ τ H ev hl hr0
  refine SRes.ofC (k := fun v H1 D => g v σ H1 D.nx) (ha σ τ H ev hl hr0) fun t v ev1 H1 _ hl1 hr1 ho1 => ?_
  intro D w
  split at w
  · rename_i d ev2 e
    split at w
    · rename_i ev3 e2
      obtain ⟨g1, g2⟩ := fz1_ok hl1 hr1 ho1 e
      exact hg σ τ H1 ev2 v d ev3 g1 g2 e2 _ fun σ' H' k l r => w σ' H' (k.keep ho) l r
    · exact w.elim
  · exact w.elim
theorem ws_aug {i : Nat} {r : R2} {f : D → D → Option (Nat × D)} (hi : i ∉ P) (hop : Op2 K r f) (ha : WE K xm ta fa) : WS K xm P (tAug i ta r) (dAug i f fa) := by
  intro σ τ H ev hl hr0
  unfold dAug
  split
  · rename_i d e
    obtain ⟨x, hx⟩ := slot_some e (by intro z; cases z) hl hr0
    have hr1 : Rp K H (σ.zip ev ++ ((some x, .vl 0 d) :: τ)) := by
      obtain ⟨F, A, c⟩ := hr0
      obtain ⟨A', _, v', e', hz⟩ := c.sep.mem (List.mem_append_left _ (zip_mem hx e))
      cases e'
      exact Rp.newE c (.same hz)
    intro D w
    have w' := SW.weak (e := [(some x, .vl 0 d)]) w
    refine ⟨x, hx, ?_⟩
    refine SRes.ofC (P := P) (σ := σ) (k := fun y H1 D => r x y H1 fun z H2 => D.nx (σ.set i (some z)) H2) (ha σ _ H ev hl hr1) (fun t v ev1 H1 _ hl1 hr1 ho1 => ?_) D w'
    intro D w
    split at w
    · rename_i d2 e2
      split at w
      · rename_i k z e3
        split at w
        · rename_i hlt
          obtain ⟨F, A, c⟩ := hr1
          have m1 : ((some x, Sl.vl 0 d) : Ent) ∈ σ.zip ev1 ++ (iT.ent t v ++ ((some x, Sl.vl 0 d) :: τ)) := List.mem_append_right _ (List.mem_append_right _ (List.mem_cons_self ..))
          obtain ⟨A', _, v', e', hz⟩ := c.sep.mem m1
          cases e'
          refine hop F H1 x v d d2 k z c.sub (EFv.of_rz c.sub hz) (rd_ef c (mem_ent σ v t _) ho1 e2) e3 _ fun zv H2 n => ?_
          have r3 := Rp.newE c n
          obtain ⟨h1, h2⟩ := put_ok (i := i) hl1 hlt r3
          exact w _ _ (Keep.set hi) h1 (h2.sub (sub_app (List.sublist_append_right _ _)))
        · exact w.elim
      · exact w.elim
    · exact w.elim
  · exact fun D w => w.elim
theorem ws_par {i j : Nat} (hi : i ∉ P) (hj : j ∉ P) (ha : WA K xm tr fr) : WS K xm P (tPar i j tr) (dPar i j fr) := by
  intro σ τ H ev hl hr0
  refine SRes.ofC (k := fun vs H1 D => ∃ v w, vs = [v, w] ∧ D.nx ((σ.set i (some v)).set j (some w)) H1) (ha σ τ H ev hl hr0) fun ts vs ev1 H1 _ hl1 hr1 ho1 => ?_
  intro D w
  split at w
  · rename_i t u _
    match vs, ho1 with
    | [v, v2], ho1 =>
      split at w
      · rename_i d ev2 e
        split at w
        · rename_i e' ev3 e2
          split at w
          · rename_i hlt
            have r1 : Rp K H1 (σ.zip ev1 ++ ((some v, t.sl) :: (some v2, u.sl) :: τ)) := hr1
            obtain ⟨g1, g2⟩ := fz1_ok hl1 r1 ho1.1 e
            have r2 : Rp K H1 (σ.zip ev2 ++ ((some v2, u.sl) :: (some v, .vl 0 d) :: τ)) := g2.perm (List.Perm.append_left _ (List.Perm.swap ..))
            obtain ⟨g3, g4⟩ := fz1_ok g1 r2 ho1.2.1 e2
            have r3 : Rp K H1 (σ.zip ev3 ++ ((some v, .vl 0 d) :: (some v2, .vl 0 e') :: τ)) := g4.perm (List.Perm.append_left _ (List.Perm.swap ..))
            obtain ⟨g5, g6⟩ := put_ok g3 hlt.1 r3
            obtain ⟨g7, g8⟩ := put_ok (i := j) g5 (by rw [List.length_set]; exact hlt.2) g6
            exact ⟨v, v2, rfl, w _ _ ((Keep.set hi).trans (Keep.set hj)) g7 g8⟩
          · exact w.elim
        · exact w.elim
      · exact w.elim
  · exact w.elim
end
end DN

set_option Elab.async false
set_option linter.all false
set_option maxRecDepth 100000
set_option maxHeartbeats 1000000
namespace DN
open PySem PySem.Spec L2

/-! ### lists that are changed -/
def Sl.o1 : Sl → Option (List D)
  | .vl 1 (.lst ds) => some ds
  | .io 1 (.lst ds) => some ds
  | _ => none
def Sl.re : Sl → D → Sl
  | .vl k _, d => .vl k d
  | .io k _, d => .io k d
  | .un, _ => .un
section
variable {K : PySem.W.Frag} {xm : XM} {F H : Hp} {σ : St} {ev : Ev} {l τ : List Ent} {A : AS} {a : Addr} {xs xs' : List V} {ds ds' : List D} {i : Nat} {s : Sl}
theorem o1_kd (h : s.o1 = some ds) : s.kd = some (1, .lst ds) ∧ ∀ ds', (s.re (.lst ds')).o1 = some ds' := by
  unfold Sl.o1 at h
  split at h
  · cases h; exact ⟨rfl, fun _ => rfl⟩
  · cases h; exact ⟨rfl, fun _ => rfl⟩
  · cases h
theorem Rp.wr (c : RpC K F H ((some (.ref a), .vl 1 (.lst ds)) :: l) A) (h : Rzs K F xs' ds') : Rp K (upd H a (.lst xs')) ((some (.ref a), .vl 1 (.lst ds')) :: l) := by
  obtain ⟨A1, A2, s1, s2, dj, ⟨v, e, a', xs, e2, ha, hA, ow⟩, sep2⟩ := c.sep
  cases e
  cases e2
  have na : F a = none := (c.own a (s1 a hA)).1
  refine ⟨F, A, fun b o hb => ?_, fun b hb => ?_, A1, A2, s1, s2, dj, ⟨.ref a, rfl, a, xs', rfl, upd_same, hA, Ows.of_rzs _ h⟩, sep2.keep (fun _ h => h) (Le.refl F) fun b o hb e => ?_⟩
  · rw [upd_ne (fun z => by rw [z, na] at hb; cases hb)]; exact c.sub b o hb
  · obtain ⟨e1, u, e2⟩ := c.own b hb
    refine ⟨e1, ?_⟩
    by_cases q : b = a
    · subst q; exact ⟨_, upd_same⟩
    · exact ⟨u, by rw [upd_ne q]; exact e2⟩
  · rw [upd_ne (fun z => dj a hA (by subst z; exact hb))]; exact e
theorem Rp.kdE {o : Option V} {s s' : Sl} (e : s.kd = s'.kd) (h : Rp K H ((o, s) :: l)) : Rp K H ((o, s') :: l) := by
  obtain ⟨F, A, h1, h2, A1, A2, g1, g2, g3, g4, g5⟩ := h
  refine ⟨F, A, h1, h2, A1, A2, g1, g2, g3, ?_, g5⟩
  unfold RS at g4 ⊢
  rw [← e]
  exact g4
theorem re_kd (h : s.o1 = some ds) (d : D) : (s.re d).kd = some (1, d) := by
  unfold Sl.o1 at h
  split at h
  · rfl
  · rfl
  · cases h
/-- the slot's list: where it is, its items -/
theorem slot_at (hl : ev.length = σ.length) (h : Rp K H (σ.zip ev ++ l)) (e : ev[i]? = some s) (hs : s.o1 = some ds) :
    ∃ a xs, σ[i]? = some (some (.ref a)) ∧ H a = some (.lst xs) ∧ xs.length = ds.length ∧ Rp K H (σ.zip ev ++ (frE xs ds ++ l)) := by
  obtain ⟨v, hv⟩ := slot_some e (by rw [(o1_kd hs).1]; intro z; cases z) hl h
  obtain ⟨F, A, c⟩ := h
  obtain ⟨A', hA', q⟩ := c.sep.mem (List.mem_append_left _ (zip_mem hv e))
  unfold RS at q
  rw [(o1_kd hs).1] at q
  obtain ⟨v', e', a, xs, rfl, ha, _, ow⟩ := q
  cases e'
  have hz : Rzs K F xs ds := Ows.rzs ow
  refine ⟨a, xs, hv, ha, hz.len, ?_⟩
  refine Rp.perm (l := frE xs ds ++ (σ.zip ev ++ l)) ?_ ⟨F, A, Rp.items hz c⟩
  rw [← List.append_assoc, ← List.append_assoc]
  exact List.perm_append_comm.append_right l
theorem slot_wr (hl : ev.length = σ.length) (h : Rp K H (σ.zip ev ++ l)) (e : ev[i]? = some s) (hs : s.o1 = some ds) (hv : σ[i]? = some (some (.ref a))) (ha : H a = some (.lst xs))
    (q : ∀ F, Rzs K F xs ds → (∀ y d, ((some y, .vl 0 d) : Ent) ∈ l → Rz K F y d) → Rzs K F xs' ds') : Rp K (upd H a (.lst xs')) (σ.zip (ev.set i (s.re (.lst ds'))) ++ l) := by
  have h1 := Rp.slot hv e h
  have h2 := Rp.kdE (s' := .vl 1 (.lst ds)) (o1_kd hs).1 h1
  obtain ⟨F, A, c⟩ := h2
  obtain ⟨A1, _, v', e', a', xs2, e2, ha2, _, ow⟩ := c.sep.mem (List.mem_cons_self ..)
  cases e'
  cases e2
  rw [ha] at ha2
  cases ha2
  have r := Rp.wr c (q F (Ows.rzs ow) fun y d hm => by
    obtain ⟨A1, _, v', e', hz⟩ := c.sep.mem (List.mem_cons_of_mem _ (List.mem_append_right _ hm))
    cases e'
    exact hz)
  exact Rp.putU hv hl (Rp.kdE (s := .vl 1 (.lst ds')) (re_kd hs (.lst ds')).symm r)
theorem mem_frE : ∀ {xs : List V} {ds : List D} {j : Nat} {x : V} {d : D}, xs[j]? = some x → ds[j]? = some d → ((some x, .vl 0 d) : Ent) ∈ frE xs ds
  | [], _, _, _, _, h, _ => by simp at h
  | _ :: _, [], _, _, _, _, h => by simp at h
  | y :: xs, e :: ds, 0, x, d, h1, h2 => by simp at h1 h2; subst h1; subst h2; exact List.mem_cons_self ..
  | y :: xs, e :: ds, j + 1, x, d, h1, h2 => List.mem_cons_of_mem _ (mem_frE (by simpa using h1) (by simpa using h2))
theorem pick_frE {xs : List V} {ds : List D} {j : Nat} {x : V} {d : D} (h1 : xs[j]? = some x) (h2 : ds[j]? = some d) (h : Rp K H (σ.zip ev ++ (frE xs ds ++ l))) : Rp K H (σ.zip ev ++ ((some x, .vl 0 d) :: l)) :=
  h.sub (sub_app ((List.singleton_sublist.mpr (mem_frE h1 h2)).append (List.Sublist.refl l)))
end

/-- xs.append(e), xs in slot i -/
def dApp (i : Nat) (fa : Ev → R T) : Ev → R Out := fun ev => match (ev[i]?).bind Sl.o1 with
  | none => .bad
  | some _ => (fa ev).bind fun t ev1 => match fz1 t ev1 with
    | none => .bad
    | some (d, ev2) => (match ev2[i]? with
      | none => .bad
      | some s => (match s.o1 with
        | none => .bad
        | some ds => if ds.length < 1000000 then .ok .nx (ev2.set i (s.re (.lst (ds ++ [d])))) else .bad))
/-- xs.pop() -/
def dPop (i : Nat) : Ev → R T := fun ev => match ev[i]? with
  | none => .bad
  | some s => (match s.o1 with
    | none => .bad
    | some ds => (match ds[ds.length - 1]? with
      | none => .bad
      | some d => .ok (.vl 0 d) (ev.set i (s.re (.lst ds.dropLast)))))
/-- xs[n] = e -/
def dSetI (i : Nat) (fi fa : Ev → R T) : Ev → R Out := fun ev => (fa ev).bind fun t ev1 => match (ev1[i]?).bind Sl.o1 with
  | none => .bad
  | some _ => (fi ev1).bind fun u ev2 => match u.rd ev2 with
    | some (.int n) => (match fz1 t ev2 with
      | none => .bad
      | some (d, ev3) => (match ev3[i]? with
        | none => .bad
        | some s => (match s.o1 with
          | none => .bad
          | some ds => (match ixN ds.length n with
            | none => .bad
            | some j => .ok .nx (ev3.set i (s.re (.lst (ds.set j d))))))))
    | _ => .bad
/-- xs[n] op= e -/
def dAugI (i : Nat) (fi : Ev → R T) (f : D → D → Option (Nat × D)) (fa : Ev → R T) : Ev → R Out := fun ev => match (ev[i]?).bind Sl.o1 with
  | none => .bad
  | some _ => (fi ev).bind fun u ev1 => match u.rd ev1 with
    | some (.int n) => (match (ev1[i]?).bind Sl.o1 with
      | none => .bad
      | some ds0 => (match atI ds0 n with
        | none => .bad
        | some d0 => (fa ev1).bind fun t ev2 => match t.rd ev2 with
          | none => .bad
          | some e => (match f d0 e with
            | some (0, z) => (match ev2[i]? with
              | none => .bad
              | some s => (match s.o1 with
                | none => .bad
                | some ds => (match ixN ds.length n with
                  | none => .bad
                  | some j => .ok .nx (ev2.set i (s.re (.lst (ds.set j z)))))))
            | _ => .bad)))
    | _ => .bad
section
variable {K : PySem.W.Frag} {xm : XM} {P : List Nat} {te ta tb ti : TE} {fa fi : Ev → R T} {i : Nat}
theorem bind_o1 {ev : Ev} {ds : List D} (h : (ev[i]?).bind Sl.o1 = some ds) : ∃ s, ev[i]? = some s ∧ s.o1 = some ds := by
  cases e : ev[i]? with
  | none => rw [e] at h; cases h
  | some s => rw [e] at h; exact ⟨s, rfl, h⟩
theorem tyV_list {H : Hp} {a : Addr} {xs : List V} (h : H a = some (.lst xs)) : tyV K "list" (.ref a) H := .inl ⟨rfl, xs, SqL.of h⟩
theorem sz_lt {n : Nat} (h : n < 1000000) : n < sizeLine := Nat.lt_of_lt_of_le h (by decide)
theorem ws_app (ha : WE K xm ta fa) : WS K xm P (tDrop (tBM K "list" rAppend (tVar i) (tCons ta tNil))) (dApp i fa) := by
  intro σ τ H ev hl hr0
  unfold dApp
  split
  · exact fun D w => w.elim
  · rename_i ds0 e0
    obtain ⟨s0, e1, e2⟩ := bind_o1 e0
    obtain ⟨a, xs0, hv, ha0, hlen0, _⟩ := slot_at hl hr0 e1 e2
    intro D w
    refine ⟨.ref a, hv, tyV_list ha0, ?_⟩
    refine SRes.ofC (P := P) (k := fun x H1 D => rAppend (.ref a) [x] H1 fun _ H2 => D.nx σ H2) (ha σ τ H ev hl hr0) (fun t v ev1 H1 _ hl1 hr1 ho1 => ?_) D w
    intro D w
    split at w
    · exact w.elim
    · rename_i d ev2 e3
      obtain ⟨g1, g2⟩ := fz1_ok hl1 hr1 ho1 e3
      split at w
      · exact w.elim
      · rename_i s e4
        split at w
        · exact w.elim
        · rename_i ds e5
          split at w
          · rename_i hz
            obtain ⟨a', xs, hv', ha', hlen, _⟩ := slot_at g1 g2 e4 e5
            rw [hv] at hv'
            cases hv'
            have r := slot_wr (xs' := xs ++ [v]) (ds' := ds ++ [d]) g1 g2 e4 e5 hv ha' fun F h1 h2 => h1.append (Rzs.one (h2 v d (List.mem_cons_self ..)))
            refine ⟨a, xs, v, rfl, rfl, ha', sz_lt (by rw [hlen]; exact hz), ?_⟩
            exact w σ _ (Keep.refl _ _) (by rw [List.length_set]; exact g1) (r.sub (sub_app (List.sublist_cons_self _ _)))
          · exact w.elim
theorem we_pop : WE K xm (tBM0 K "list" rPop (tVar i)) (dPop i) := by
  intro σ τ H ev hl hr0
  unfold dPop
  split
  · trivial
  · rename_i s e1
    split
    · trivial
    · rename_i ds e2
      split
      · trivial
      · rename_i d e3
        obtain ⟨a, xs, hv, ha0, hlen, hr1⟩ := slot_at hl hr0 e1 e2
        intro Q q
        have hlt : ds.length - 1 < ds.length := (List.getElem?_eq_some_iff.mp e3).1
        obtain ⟨y, hy⟩ : ∃ y, xs[xs.length - 1]? = some y := ⟨xs[xs.length - 1]'(by omega), List.getElem?_eq_getElem _⟩
        have hr2 := pick_frE hy (by rw [hlen]; exact e3) hr1
        have r := slot_wr (xs' := xs.dropLast) (ds' := ds.dropLast) hl hr2 e1 e2 hv ha0 fun F h1 h2 => h1.dropLast
        refine ⟨.ref a, hv, tyV_list ha0, a, xs, y, rfl, rfl, ha0, hy, ?_⟩
        exact q y _ (by rw [List.length_set]; exact hl) r trivial
theorem ixN_lt {n : Nat} {k : Int} {j : Nat} (h : ixN n k = some j) : j < n := (ixN_seq h).2.1
theorem ws_setI (ha : WE K xm ta fa) (hi : WE K xm ti fi) : WS K xm P (tAsg ta (gSub (tVar i) ti rSetL)) (dSetI i fi fa) := by
  intro σ τ H ev hl hr0 D w
  refine SW.run (e := []) (k := fun x H1 => gSub (tVar i) ti rSetL x σ H1 D.nx) (ha σ τ H ev hl hr0) w fun t v ev1 H1 hl1 hr1 ho1 w => ?_
  split at w
  · exact w.elim
  · rename_i ds0 e0
    obtain ⟨s0, e1, e2⟩ := bind_o1 e0
    obtain ⟨a, xs0, hv, ha0, hlen0, _⟩ := slot_at hl1 hr1 e1 e2
    refine ⟨.ref a, hv, ?_⟩
    refine SW.run (e := iT.ent t v) (k := fun u H2 => rSetL (.ref a) u v H2 fun H3 => D.nx σ H3) (hi σ _ H1 ev1 hl1 hr1) w fun u vu ev2 H2 hl2 hr2 ho2 w => ?_
    split at w
    · rename_i n e3
      obtain ⟨F, A, c⟩ := id hr2
      have hn : vu = .int n := rd_ef c (mem_ent σ vu u _) ho2 e3
      subst hn
      split at w
      · exact w.elim
      · rename_i d ev3 e4
        obtain ⟨g1, g2⟩ := fz1_ok hl2 (hr2.sub (sub_app (List.sublist_append_right _ _))) ho1 e4
        split at w
        · exact w.elim
        · rename_i s e5
          split at w
          · exact w.elim
          · rename_i ds e6
            split at w
            · exact w.elim
            · rename_i j e7
              obtain ⟨a', xs, hv', ha', hlen, _⟩ := slot_at g1 g2 e5 e6
              rw [hv] at hv'
              cases hv'
              have r := slot_wr (xs' := xs.set j v) (ds' := ds.set j d) g1 g2 e5 e6 hv ha' fun F h1 h2 => h1.set j (h2 v d (List.mem_cons_self ..))
              refine ⟨a, xs, n, j, rfl, rfl, ha', by rw [hlen]; exact e7, ?_⟩
              exact w σ _ (Keep.refl _ _) (by rw [List.length_set]; exact g1) (r.sub (sub_app (List.sublist_cons_self _ _)))
    · exact w.elim
theorem atI_len {α β : Type} {xs : List α} {ds : List β} {n : Int} {d : β} (hl : xs.length = ds.length) (h : atI ds n = some d) : ∃ (j : Nat) (x : α), ixN ds.length n = some j ∧ ds[j]? = some d ∧ xs[j]? = some x ∧ atI xs n = some x := by
  unfold atI at h ⊢
  cases e : ixN ds.length n with
  | none => rw [e] at h; cases h
  | some j =>
    rw [e] at h
    have h : ds[j]? = some d := h
    have hj : j < xs.length := by rw [hl]; exact (List.getElem?_eq_some_iff.mp h).1
    refine ⟨j, xs[j], rfl, h, List.getElem?_eq_getElem hj, ?_⟩
    rw [hl, e]
    exact List.getElem?_eq_getElem hj
theorem ws_augI {r : R2} {f : D → D → Option (Nat × D)} (hop : Op2 K r f) (hi : WE K xm ti fi) (ha : WE K xm ta fa) : WS K xm P (tAugS (tVar i) ti ta (rIxL K) r rSetL) (dAugI i fi f fa) := by
  intro σ τ H ev hl hr0
  unfold dAugI
  split
  · exact fun D w => w.elim
  · rename_i ds0 e0
    obtain ⟨s0, e1, e2⟩ := bind_o1 e0
    obtain ⟨a, xs0, hv, ha0, hlen0, _⟩ := slot_at hl hr0 e1 e2
    intro D w
    refine ⟨.ref a, hv, ?_⟩
    refine SRes.ofC (P := P) (k := fun u H1 D => rIxL K (.ref a) u H1 fun x H2 => ta σ H2 fun y H3 => r x y H3 fun z H4 => rSetL (.ref a) u z H4 fun H5 => D.nx σ H5) (hi σ τ H ev hl hr0) (fun u vu ev1 H1 _ hl1 hr1 ho1 => ?_) D w
    intro D w
    split at w
    · rename_i n e3
      obtain ⟨F, A, c⟩ := id hr1
      have hn : vu = .int n := rd_ef c (mem_ent σ vu u _) ho1 e3
      subst hn
      split at w
      · exact w.elim
      · rename_i ds1 e4
        obtain ⟨s1, e5, e6⟩ := bind_o1 e4
        obtain ⟨a1, xs1, hv1, ha1, hlen1, hr1'⟩ := slot_at hl1 (hr1.sub (sub_app (List.sublist_append_right _ _))) e5 e6
        rw [hv] at hv1
        cases hv1
        split at w
        · exact w.elim
        · rename_i d0 e7
          obtain ⟨j, x, j1, j2, j3, j4⟩ := atI_len hlen1 e7
          have hr2 := pick_frE j3 j2 hr1'
          refine ⟨a, xs1, n, x, rfl, rfl, SqL.of ha1, j4, ?_⟩
          refine SRes.ofC (P := P) (k := fun y H3 D => r x y H3 fun z H4 => rSetL (.ref a) (.int n) z H4 fun H5 => D.nx σ H5) (ha σ _ H1 ev1 hl1 hr2) (fun t v ev2 H3 _ hl3 hr3 ho3 => ?_) D (SW.weak (e := [(some x, .vl 0 d0)]) w)
          intro D w
          split at w
          · exact w.elim
          · rename_i e e8
            split at w
            · rename_i z e9
              split at w
              · exact w.elim
              · rename_i s e10
                split at w
                · exact w.elim
                · rename_i ds e11
                  split at w
                  · exact w.elim
                  · rename_i j' e12
                    obtain ⟨F, A, c⟩ := id hr3
                    have m1 : ((some x, Sl.vl 0 d0) : Ent) ∈ σ.zip ev2 ++ (iT.ent t v ++ ([(some x, Sl.vl 0 d0)] ++ τ)) := List.mem_append_right _ (List.mem_append_right _ (List.mem_cons_self ..))
                    obtain ⟨A', _, v', e', hz⟩ := c.sep.mem m1
                    cases e'
                    refine hop F H3 x v d0 e 0 z c.sub (EFv.of_rz c.sub hz) (rd_ef c (mem_ent σ v t _) ho3 e8) e9 _ fun zv H4 nw => ?_
                    have r3 := Rp.newE c nw
                    obtain ⟨a2, xs2, hv2, ha2, hlen2, _⟩ := slot_at hl3 r3 e10 e11
                    rw [hv] at hv2
                    cases hv2
                    have r4 := slot_wr (xs' := xs2.set j' zv) (ds' := ds.set j' z) hl3 r3 e10 e11 hv ha2 fun F h1 h2 => h1.set j' (h2 zv z (List.mem_cons_self ..))
                    refine ⟨a, xs2, n, j', rfl, rfl, ha2, by rw [hlen2]; exact e12, ?_⟩
                    exact w σ _ (Keep.refl _ _) (by rw [List.length_set]; exact hl3) (r4.sub (sub_app ((List.sublist_append_right _ _).trans (List.sublist_cons_self _ _))))
            · exact w.elim
    · exact w.elim
end
end DN

set_option Elab.async false
set_option linter.all false
set_option maxRecDepth 100000
set_option maxHeartbeats 1000000
namespace DN
open PySem PySem.Spec L2

/-! ### what is walked -/
def ItOk (K : PySem.W.Frag) (J : It) (es : List Ent) (ds : List D) : Prop := ∀ j H l, Rp K H (es ++ l) →
  (j < ds.length → J.go j H) ∧ (∀ d x H', ds[j]? = some d → J.yld j H x H' → Rp K H' ((some x, .vl 0 d) :: (es ++ l))) ∧ (ds.length ≤ j → J.stop j H)
def WI (K : PySem.W.Frag) (xm : XM) (wi : TI) (f : Ev → R (List D)) : Prop := ∀ σ τ H ev, ev.length = σ.length → Rp K H (σ.zip ev ++ τ) → match f ev with
  | .ok ds ev' => ∀ R : It → Hp → Prop, (∀ J H' es, ev'.length = σ.length → Rp K H' (σ.zip ev' ++ (es ++ τ)) → ItOk K J es ds → R J H') → wi σ H R
  | .exc n d ev' => xm.on → Exc K xm σ τ n d ev' → ∀ R, wi σ H R
  | .bad => True
def dIt (fa : Ev → R T) : Ev → R (List D) := fun ev => (fa ev).bind fun t ev1 => match fz1 t ev1 with
  | some (.lst ds, ev2) => .ok ds ev2
  | some (.fls ds, ev2) => .ok ds ev2
  | some (.tup ds, ev2) => .ok ds ev2
  | some (.str s, ev2) => .ok (s.map fun c => .str [c]) ev2
  | _ => .bad
def iSeq (K : PySem.W.Frag) (tl : TE) : TI := fun σ H R => iList K tl σ H R ∨ iTup K tl σ H R ∨ iStr tl σ H R
def intsFrom (lo : Int) (n : Nat) : List D := (List.range n).map fun (i : Nat) => .int (lo + (i : Int))
def dRng1 (fr : Ev → R (List T)) : Ev → R (List D) := fun ev => (fr ev).bind fun ts ev1 => match rds ts ev1 with
  | some [.int n] => if -1000000 ≤ n ∧ n ≤ 1000000 then .ok (intsFrom 0 n.toNat) ev1 else .bad
  | _ => .bad
def dRng2 (fr : Ev → R (List T)) : Ev → R (List D) := fun ev => (fr ev).bind fun ts ev1 => match rds ts ev1 with
  | some [.int a, .int n] => if -1000000 ≤ a ∧ a ≤ 1000000 ∧ -1000000 ≤ n ∧ n ≤ 1000000 then .ok (intsFrom a (n - a).toNat) ev1 else .bad
  | _ => .bad
section
variable {K : PySem.W.Frag} {xm : XM} {P : List Nat} {te ta : TE} {tr : TA} {fa : Ev → R T} {fr : Ev → R (List T)}
theorem Rp.head {H : Hp} {v : V} {d : D} {l : List Ent} (h : Rp K H ((some v, .vl 0 d) :: l)) : ∃ F A, RpC K F H ((some v, .vl 0 d) :: l) A ∧ Rz K F v d := by
  obtain ⟨F, A, c⟩ := h
  obtain ⟨A', _, v', e, hz⟩ := c.sep.mem (List.mem_cons_self ..)
  cases e
  exact ⟨F, A, c, hz⟩
theorem it_list {a : Addr} {ds : List D} : ItOk K (Itl K a) [(some (.ref a), .vl 0 (.lst ds))] ds := by
  intro j H l h
  obtain ⟨F, A, c, a', xs, e, h1, h2⟩ := Rp.head h
  cases e
  have hs : SqL K H a xs := SqL.of (c.sub _ _ h1)
  refine ⟨fun hj => ⟨xs, xs[j]'(by rw [h2.len]; exact hj), hs, List.getElem?_eq_getElem _⟩, fun d x H' hd hy => ?_, fun hj => ⟨xs, hs, by rw [h2.len]; exact hj⟩⟩
  obtain ⟨rfl, hy⟩ := hy
  obtain ⟨x', hx, hz⟩ := h2.get hd
  have := hy xs hs
  rw [hx] at this
  cases this
  exact Rp.new c (.same hz)
theorem it_fls {a : Addr} {ds : List D} : ItOk K (Itl K a) [(some (.ref a), .vl 0 (.fls ds))] ds := by
  intro j H l h
  obtain ⟨F, A, c, a', xs, e, h1, h2⟩ := Rp.head h
  cases e
  have hs : SqL K H a xs := sqL_le c.sub h1
  refine ⟨fun hj => ⟨xs, xs[j]'(by rw [h2.len]; exact hj), hs, List.getElem?_eq_getElem _⟩, fun d x H' hd hy => ?_, fun hj => ⟨xs, hs, by rw [h2.len]; exact hj⟩⟩
  obtain ⟨rfl, hy⟩ := hy
  obtain ⟨x', hx, hz⟩ := h2.get hd
  have := hy xs hs
  rw [hx] at this
  cases this
  exact Rp.new c (.same hz)
theorem it_tup {a : Addr} {ds : List D} : ItOk K (Itt K a) [(some (.ref a), .vl 0 (.tup ds))] ds := by
  intro j H l h
  obtain ⟨F, A, c, a', xs, e, h1, h2⟩ := Rp.head h
  cases e
  have hs : SqT K H a xs := sqT_le c.sub h1
  refine ⟨fun hj => ⟨xs, xs[j]'(by rw [h2.len]; exact hj), hs, List.getElem?_eq_getElem _⟩, fun d x H' hd hy => ?_, fun hj => ⟨xs, hs, by rw [h2.len]; exact hj⟩⟩
  obtain ⟨rfl, hy⟩ := hy
  obtain ⟨x', hx, hz⟩ := h2.get hd
  have := hy xs hs
  rw [hx] at this
  cases this
  exact Rp.new c (.same hz)
theorem it_str {s : List Nat} : ItOk K (Its ⟨s.toArray⟩) [] (s.map fun c => .str [c]) := by
  intro j H l h
  refine ⟨fun hj => by simpa [Its] using hj, fun d x H' hd hy => ?_, fun hj => by simpa [Its] using hj⟩
  obtain ⟨rfl, c, hc, rfl⟩ := hy
  rw [List.getElem?_map] at hd
  have hc : s[j]? = some c := by simpa using hc
  rw [hc] at hd
  cases hd
  obtain ⟨F, A, cc⟩ := h
  exact Rp.new cc (.same rfl)
theorem it_rng {lo : Int} {n : Nat} : ItOk K (Itr lo n) [] (intsFrom lo n) := by
  intro j H l h
  have hl : (intsFrom lo n).length = n := by simp [intsFrom]
  refine ⟨fun hj => by rw [hl] at hj; exact hj, fun d x H' hd hy => ?_, fun hj => by rw [hl] at hj; exact hj⟩
  obtain ⟨rfl, rfl⟩ := hy
  unfold intsFrom at hd
  rw [List.getElem?_map] at hd
  cases e : (List.range n)[j]? with
  | none => rw [e] at hd; cases hd
  | some k =>
    rw [e] at hd
    have : k = j := by
      rw [List.getElem?_range] at e
      · cases e; rfl
      · have := (List.getElem?_eq_some_iff.mp e).1; simpa using this
    subst this
    cases hd
    obtain ⟨F, A, cc⟩ := h
    exact Rp.new cc (.same rfl)
theorem WI.of {α : Type} {γ : Type} {I : Ik α γ} {m : R α} {f : α → Ev → R (List D)} {σ : St} {τ : List Ent} {c1 : (γ → Hp → Prop) → Prop} {k : γ → Hp → (It → Hp → Prop) → Prop} (h1 : Res K xm I σ τ m c1)
    (h2 : ∀ a g ev' H', ev'.length = σ.length → Rp K H' (σ.zip ev' ++ (I.ent a g ++ τ)) → I.ok a g σ → match f a ev' with
      | .ok ds ev2 => ∀ R : It → Hp → Prop, (∀ J H' es, ev2.length = σ.length → Rp K H' (σ.zip ev2 ++ (es ++ τ)) → ItOk K J es ds → R J H') → k g H' R
      | .exc n d ev2 => xm.on → Exc K xm σ τ n d ev2 → ∀ R, k g H' R
      | .bad => True) : match m.bind f with
      | .ok ds ev2 => ∀ R : It → Hp → Prop, (∀ J H' es, ev2.length = σ.length → Rp K H' (σ.zip ev2 ++ (es ++ τ)) → ItOk K J es ds → R J H') → c1 fun g H' => k g H' R
      | .exc n d ev2 => xm.on → Exc K xm σ τ n d ev2 → ∀ R, c1 fun g H' => k g H' R
      | .bad => True := by
  cases m with
  | bad => trivial
  | exc n d ev' => exact fun ho hx R => h1 ho hx _
  | ok a ev' =>
    show match f a ev' with | .ok ds ev2 => _ | .exc n d ev2 => _ | .bad => _
    have h3 := fun g H' hl hr ho => h2 a g ev' H' hl hr ho
    cases e : f a ev' with
    | bad => trivial
    | exc n d ev2 =>
      intro ho hx R
      refine h1 _ fun g H' hl hr hk => ?_
      have := h3 g H' hl hr hk
      rw [e] at this
      exact this ho hx R
    | ok b ev2 =>
      intro R q
      refine h1 _ fun g H' hl hr hk => ?_
      have := h3 g H' hl hr hk
      rw [e] at this
      exact this R q
theorem wi_seq (ha : WE K xm ta fa) : WI K xm (iSeq K ta) (dIt fa) := by
  intro σ τ H ev hl hr0
  unfold dIt
  have h1 := ha σ τ H ev hl hr0
  cases e0 : fa ev with
  | bad => trivial
  | exc n d ev' =>
    rw [e0] at h1
    exact fun ho hx R => .inl (h1 ho hx _)
  | ok t ev1 =>
    rw [e0] at h1
    show match (match fz1 t ev1 with | some (.lst ds, ev2) => R.ok ds ev2 | some (.fls ds, ev2) => .ok ds ev2 | some (.tup ds, ev2) => .ok ds ev2 | some (.str s, ev2) => .ok (s.map fun c => .str [c]) ev2 | _ => .bad) with | .ok ds ev2 => _ | .exc n d ev2 => _ | .bad => _
    split
    · rename_i ds ev2 e
      split at e
      · rename_i ds' ev2' e2
        cases e
        intro R q
        refine .inl (h1 _ fun v H1 hl1 hr1 ho1 => ?_)
        obtain ⟨g1, g2⟩ := fz1_ok hl1 hr1 ho1 e2
        obtain ⟨F, A, c, a, xs, rfl, h2, h3⟩ := Rp.head (g2.perm List.perm_middle)
        exact ⟨a, rfl, ⟨xs, SqL.of (c.sub _ _ h2)⟩, q _ _ _ g1 g2 it_list⟩
      · rename_i ds' ev2' e2
        cases e
        intro R q
        refine .inl (h1 _ fun v H1 hl1 hr1 ho1 => ?_)
        obtain ⟨g1, g2⟩ := fz1_ok hl1 hr1 ho1 e2
        obtain ⟨F, A, c, a, xs, rfl, h2, h3⟩ := Rp.head (g2.perm List.perm_middle)
        exact ⟨a, rfl, ⟨xs, sqL_le c.sub h2⟩, q _ _ _ g1 g2 it_fls⟩
      · rename_i ds' ev2' e2
        cases e
        intro R q
        refine .inr (.inl (h1 _ fun v H1 hl1 hr1 ho1 => ?_))
        obtain ⟨g1, g2⟩ := fz1_ok hl1 hr1 ho1 e2
        obtain ⟨F, A, c, a, xs, rfl, h2, h3⟩ := Rp.head (g2.perm List.perm_middle)
        exact ⟨a, rfl, ⟨xs, sqT_le c.sub h2⟩, q _ _ _ g1 g2 it_tup⟩
      · rename_i s ev2' e2
        cases e
        intro R q
        refine .inr (.inr (h1 _ fun v H1 hl1 hr1 ho1 => ?_))
        obtain ⟨g1, g2⟩ := fz1_ok hl1 hr1 ho1 e2
        obtain ⟨F, A, c, hz⟩ := Rp.head (g2.perm List.perm_middle)
        have hz : v = .str ⟨s.toArray⟩ := hz
        exact ⟨_, hz, q _ _ [] g1 (g2.sub (sub_app (List.sublist_cons_self _ _))) it_str⟩
      · cases e
    · rename_i n d ev2 e
      split at e <;> cases e
    · trivial
theorem rds_vals {F H : Hp} {σ : St} {ev : Ev} {l : List Ent} {A : AS} (c : RpC K F H (σ.zip ev ++ l) A) {ts : List T} {vs : List V} {ds : List D} (hm : ∀ p ∈ entTs ts vs, p ∈ l) (ho : okTs ts vs σ) (h : rds ts ev = some ds) : EFvs K F H vs ds := rds_ef c hm ho h
theorem wi_rng1 (ha : WA K xm tr fr) : WI K xm (iRng1 tr) (dRng1 fr) := by
  intro σ τ H ev hl hr0
  refine WI.of (k := fun vs H1 R => ∃ j : Int, vs = [V.int j] ∧ -(2 ^ 62) ≤ j ∧ j < 2 ^ 62 ∧ R (Itr 0 j.toNat) H1) (ha σ τ H ev hl hr0) fun ts vs ev1 H1 hl1 hr1 ho1 => ?_
  split
  · rename_i ds ev2 e
    split at e
    · rename_i n e2
      split at e
      · rename_i hn
        cases e
        intro R q
        obtain ⟨F, A, c⟩ := id hr1
        have h := rds_ef c (fun p hp => List.mem_append_left _ hp) ho1 e2
        match vs, h with
        | [v], h =>
          have hv : v = .int n := h.1
          subst hv
          exact ⟨n, rfl, by omega, by omega, q _ _ [] hl1 (hr1.sub (sub_app (List.sublist_append_right _ _))) it_rng⟩
      · cases e
    · cases e
  · rename_i n d ev2 e
    split at e
    · split at e <;> cases e
    · cases e
  · trivial
theorem wi_rng2 (ha : WA K xm tr fr) : WI K xm (iRng2 tr) (dRng2 fr) := by
  intro σ τ H ev hl hr0
  refine WI.of (k := fun vs H1 R => ∃ i j : Int, vs = [V.int i, V.int j] ∧ (-(2 ^ 62) ≤ i ∧ i < 2 ^ 62 ∧ -(2 ^ 62) ≤ j ∧ j < 2 ^ 62) ∧ R (Itr i (j - i).toNat) H1) (ha σ τ H ev hl hr0) fun ts vs ev1 H1 hl1 hr1 ho1 => ?_
  split
  · rename_i ds ev2 e
    split at e
    · rename_i a n e2
      split at e
      · rename_i hn
        cases e
        intro R q
        obtain ⟨F, A, c⟩ := id hr1
        have h := rds_ef c (fun p hp => List.mem_append_left _ hp) ho1 e2
        match vs, h with
        | [v, v2], h =>
          have hv : v = .int a := h.1
          have hv2 : v2 = .int n := h.2.1
          subst hv
          subst hv2
          exact ⟨a, n, rfl, ⟨by omega, by omega, by omega, by omega⟩, q _ _ [] hl1 (hr1.sub (sub_app (List.sublist_append_right _ _))) it_rng⟩
      · cases e
    · cases e
  · rename_i n d ev2 e
    split at e
    · split at e <;> cases e
    · cases e
  · trivial
end

/-! ### for -/
def dLoop (b : D → Ev → Option Ev) (body : Ev → R Out) : List D → Ev → R Out
  | [], ev => .ok .nx ev
  | d :: ds, ev => match b d ev with
    | none => .bad
    | some ev1 => (match body ev1 with
      | .ok .nx ev2 => dLoop b body ds ev2
      | .ok .ct ev2 => dLoop b body ds ev2
      | .ok .bk ev2 => .ok .nx ev2
      | r => r)
def dFor (fi : Ev → R (List D)) (b : D → Ev → Option Ev) (body : Ev → R Out) : Ev → R Out := fun ev => (fi ev).bind fun ds ev1 => dLoop b body ds ev1
section
variable {K : PySem.W.Frag} {xm : XM} {P O : List Nat} {wi : TI} {g : TG} {tb : TS} {fi : Ev → R (List D)} {b : D → Ev → Option Ev} {body : Ev → R Out}
theorem ws_for (ho : ∀ i ∈ P, i ∉ O) (hi : WI K xm wi fi) (hg : WG K O g b) (hb : WS K xm P tb body) : WS K xm P (tFor wi g tb) (dFor fi b body) := by
  intro σ τ H ev hl hr0 D w
  have h1 := hi σ τ H ev hl hr0
  unfold dFor at w
  cases e0 : fi ev with
  | bad => rw [e0] at w; exact w.elim
  | exc n d ev' =>
    rw [e0] at h1 w
    exact h1 w.1 (fun dd v H' hl hr hd => w.2 dd v σ H' (Keep.refl _ _) hl hr hd) _
  | ok ds ev1 =>
    rw [e0] at h1 w
    have w : SW K xm P σ τ (dLoop b body ds ev1) D := w
    refine h1 _ fun J H1 es hl1 hr1 hJ => ?_
    generalize hres : dLoop b body ds ev1 = r at w
    refine ⟨fun i m σ' H' => m = ds.length - i ∧ i ≤ ds.length ∧ ∃ ev', Keep P σ σ' ∧ ev'.length = σ'.length ∧ Rp K H' (σ'.zip ev' ++ (es ++ τ)) ∧ dLoop b body (ds.drop i) ev' = r, ⟨ds.length, rfl, Nat.zero_le _, ev1, Keep.refl _ _, hl1, hr1, hres⟩, ?_⟩
    rintro i m σ' H' ⟨rfl, hi', ev', k1, l1, r1, e1⟩
    have hjj := hJ i H' (σ'.zip ev' ++ τ) (r1.perm (by
      rw [← List.append_assoc, ← List.append_assoc]
      exact List.perm_append_comm.append_right τ))
    by_cases hlt : i < ds.length
    · refine .inr ⟨hjj.1 hlt, _, fun σ2 H2 q => q, fun x H2 hy => ?_⟩
      have ed : ds.drop i = ds[i] :: ds.drop (i + 1) := List.drop_eq_getElem_cons hlt
      have r2 := hjj.2.1 ds[i] x H2 (List.getElem?_eq_getElem hlt) hy
      rw [ed] at e1
      unfold dLoop at e1
      cases e2 : b ds[i] ev' with
      | none => rw [e2] at e1; rw [← e1] at w; exact w.elim
      | some ev2 =>
        rw [e2] at e1
        have e1 : (match body ev2 with | .ok .nx ev3 => dLoop b body (ds.drop (i + 1)) ev3 | .ok .ct ev3 => dLoop b body (ds.drop (i + 1)) ev3 | .ok .bk ev3 => .ok .nx ev3 | r => r) = r := e1
        have r3 : Rp K H2 (σ'.zip ev' ++ ((some x, .vl 0 ds[i]) :: (es ++ τ))) := r2.perm (by
          refine List.Perm.trans (List.Perm.cons _ ?_) List.perm_middle.symm
          rw [← List.append_assoc, ← List.append_assoc]
          exact List.perm_append_comm.append_right τ)
        refine hg σ' (es ++ τ) H2 ev' x ds[i] ev2 l1 r3 e2 _ fun σ3 H3 k3 l3 r4 => ?_
        refine hb σ3 (es ++ τ) H3 ev2 l3 r4 _ ?_
        have k4 : Keep P σ σ3 := k1.trans (k3.keep ho)
        cases e3 : body ev2 with
        | bad => rw [e3] at e1; rw [← e1] at w; exact w
        | exc n d ev3 =>
          rw [e3] at e1
          rw [← e1] at w
          exact (w.keep k4).weak
        | ok o ev3 =>
          rw [e3] at e1
          cases o with
          | nx => exact fun σ5 H5 k5 l5 r5 => ⟨ds.length - (i + 1), by omega, rfl, hlt, ev3, k4.trans k5, l5, r5, e1⟩
          | ct => exact fun σ5 H5 k5 l5 r5 => ⟨ds.length - (i + 1), by omega, rfl, hlt, ev3, k4.trans k5, l5, r5, e1⟩
          | bk =>
            have e1 : R.ok .nx ev3 = r := e1
            rw [← e1] at w
            exact fun σ5 H5 k5 l5 r5 => w σ5 H5 (k4.trans k5) l5 (r5.sub (sub_app (List.sublist_append_right _ _)))
          | rt t =>
            have e1 : R.ok (.rt t) ev3 = r := e1
            rw [← e1] at w
            exact fun v σ5 H5 k5 l5 r5 a5 => w v σ5 H5 (k4.trans k5) l5 (r5.sub (sub_app (List.Sublist.cons_cons _ (List.sublist_append_right _ _)))) a5
    · have e2 : i = ds.length := by omega
      subst e2
      rw [List.drop_length] at e1
      have e1 : R.ok .nx ev' = r := e1
      rw [← e1] at w
      exact .inl ⟨hjj.2.2 (Nat.le_refl _), w σ' H' k1 l1 (r1.sub (sub_app (List.sublist_append_right _ _)))⟩

/-! ### while -/
def dWh (t : Ev → R Bool) (body : Ev → R Out) : Nat → Ev → R Out
  | 0, _ => .bad
  | n + 1, ev => (t ev).bind fun c ev1 => if c = true then (match body ev1 with
      | .ok .nx ev2 => dWh t body n ev2
      | .ok .ct ev2 => dWh t body n ev2
      | .ok .bk ev2 => .ok .nx ev2
      | r => r) else .ok .nx ev1
theorem ws_while {tt : TT} {ft : Ev → R Bool} (n : Nat) (hc : WT K xm tt ft) (hb : WS K xm P tb body) : WS K xm P (tWhile tt tb) (dWh ft body n) := by
  intro σ τ H ev hl hr0 D w
  generalize hres : dWh ft body n ev = r at w
  refine ⟨fun m σ' H' => ∃ ev', Keep P σ σ' ∧ ev'.length = σ'.length ∧ Rp K H' (σ'.zip ev' ++ τ) ∧ dWh ft body m ev' = r, ⟨n, ev, Keep.refl _ _, hl, hr0, hres⟩, ?_⟩
  rintro m σ' H' ⟨ev', k1, l1, r1, e1⟩
  cases m with
  | zero => rw [← (show R.bad = r from e1)] at w; exact w.elim
  | succ m =>
    unfold dWh at e1
    have h1 := hc σ' τ H' ev' l1 r1
    have w1 := w.keep k1
    cases e0 : ft ev' with
    | bad => rw [e0] at e1; rw [← (show R.bad = r from e1)] at w; exact w.elim
    | exc n d ev2 =>
      rw [e0] at e1 h1
      rw [← (show R.exc n d ev2 = r from e1)] at w1
      exact h1 w1.1 (fun dd v H' hl hr hd => w1.2 dd v σ' H' (Keep.refl _ _) hl hr hd) _
    | ok c ev1 =>
      rw [e0] at e1 h1
      have e1 : (if c = true then (match body ev1 with | .ok .nx ev2 => dWh ft body m ev2 | .ok .ct ev2 => dWh ft body m ev2 | .ok .bk ev2 => .ok .nx ev2 | r => r) else .ok .nx ev1) = r := e1
      refine h1 _ fun c' H2 l2 r2 (ec : c = c') => ?_
      subst ec
      have r2 : Rp K H2 (σ'.zip ev1 ++ τ) := r2
      cases c with
      | false =>
        have e1 : R.ok .nx ev1 = r := e1
        rw [← e1] at w1
        exact w1 σ' H2 (Keep.refl _ _) l2 r2
      | true =>
        rw [if_pos rfl] at e1
        rw [if_pos rfl]
        refine ⟨_, fun σ3 H3 q => q, ?_⟩
        refine hb σ' τ H2 ev1 l2 r2 _ ?_
        cases e3 : body ev1 with
        | bad => rw [e3] at e1; rw [← (show R.bad = r from e1)] at w; exact w.elim
        | exc n d ev3 =>
          rw [e3] at e1
          rw [← (show R.exc n d ev3 = r from e1)] at w1
          exact w1
        | ok o ev3 =>
          rw [e3] at e1
          cases o with
          | nx => exact fun σ5 H5 k5 l5 r5 => ⟨m, Nat.lt_succ_self m, ev3, k1.trans k5, l5, r5, e1⟩
          | ct => exact fun σ5 H5 k5 l5 r5 => ⟨m, Nat.lt_succ_self m, ev3, k1.trans k5, l5, r5, e1⟩
          | bk =>
            have e1 : R.ok .nx ev3 = r := e1
            rw [← e1] at w1
            exact w1
          | rt t =>
            have e1 : R.ok (.rt t) ev3 = r := e1
            rw [← e1] at w1
            exact w1
end
end DN

set_option Elab.async false
set_option linter.all false
set_option maxRecDepth 100000
set_option maxHeartbeats 1000000
namespace DN
open PySem PySem.Spec L2

/-! ### comprehensions -/
def wipeE (ev : Ev) : List Nat → Ev
  | [] => ev
  | v :: vs => (wipeE ev vs).set v .un
def frzS : Option Sl → Sl
  | some (.vl 0 d) => .vl 0 d
  | _ => .un
def restE (ev : Ev) : List Nat → Ev → Ev
  | [], e => e
  | v :: vs, e => restE ev vs (e.set v (frzS (wipeE ev vs)[v]?))
def hidE (σ : St) (ev : Ev) : List Nat → List Ent
  | [] => []
  | v :: vs => (((wipe σ vs)[v]?).join, frzS (wipeE ev vs)[v]?) :: hidE σ ev vs
theorem wipeE_len (ev : Ev) : ∀ vs : List Nat, (wipeE ev vs).length = ev.length
  | [] => rfl
  | v :: vs => by unfold wipeE; rw [List.length_set, wipeE_len ev vs]
section
variable {K : PySem.W.Frag} {H : Hp} {σ : St} {ev : Ev}
theorem frzS_ok {o : Option V} {s : Option Sl} {l : List Ent} (h : Rp K H ((o, s.getD .un) :: l)) : Rp K H ((o, frzS s) :: l) := by
  unfold frzS
  split
  · exact h
  · exact h.tail.un
theorem hide_ok (hl : ev.length = σ.length) : ∀ {vs : List Nat} {τ : List Ent}, Rp K H (σ.zip ev ++ τ) → Rp K H ((wipe σ vs).zip (wipeE ev vs) ++ (hidE σ ev vs ++ τ))
  | [], τ, h => h
  | v :: vs, τ, h => by
    have ih := hide_ok hl (vs := vs) h
    have l1 : (wipe σ vs).length = σ.length := wipe_length σ vs
    have l2 : (wipeE ev vs).length = σ.length := (wipeE_len ev vs).trans hl
    show Rp K H (((wipe σ vs).set v none).zip ((wipeE ev vs).set v .un) ++ ((((wipe σ vs)[v]?).join, frzS (wipeE ev vs)[v]?) :: (hidE σ ev vs ++ τ)))
    by_cases hv : v < σ.length
    · have e1 : (wipe σ vs)[v]? = some ((wipe σ vs)[v]'(by rw [l1]; exact hv)) := List.getElem?_eq_getElem _
      have e2 : (wipeE ev vs)[v]? = some ((wipeE ev vs)[v]'(by rw [l2]; exact hv)) := List.getElem?_eq_getElem _
      rw [e1, e2]
      have a := Rp.slot e1 e2 ih
      have b : Rp K H ((_, frzS (some ((wipeE ev vs)[v]'(by rw [l2]; exact hv)))) :: _) := frzS_ok (s := some _) a
      have c : Rp K H ((none, .un) :: (((wipe σ vs).zip ((wipeE ev vs).set v .un)) ++ ((_, frzS (some ((wipeE ev vs)[v]'(by rw [l2]; exact hv)))) :: (hidE σ ev vs ++ τ)))) := (b.perm List.perm_middle.symm).un
      have d := Rp.put (i := v) (by rw [l1]; exact hv) (by rw [List.length_set, l1, l2]) c
      rw [List.set_set] at d
      exact d
    · have e1 : (wipe σ vs)[v]? = none := List.getElem?_eq_none (by rw [l1]; omega)
      have e2 : (wipeE ev vs)[v]? = none := List.getElem?_eq_none (by rw [l2]; omega)
      rw [e1, e2, List.set_eq_of_length_le (by rw [l1]; omega), List.set_eq_of_length_le (by rw [l2]; omega)]
      exact (ih.un (o := none)).perm List.perm_middle.symm
theorem rest_ok (hl : ev.length = σ.length) : ∀ {vs : List Nat} {τ : List Ent} {e : Ev}, e.length = σ.length → Rp K H ((wipe σ vs).zip e ++ (hidE σ ev vs ++ τ)) → (restE ev vs e).length = σ.length ∧ Rp K H (σ.zip (restE ev vs e) ++ τ)
  | [], τ, e, he, h => ⟨he, h⟩
  | v :: vs, τ, e, he, h => by
    have l1 : (wipe σ vs).length = σ.length := wipe_length σ vs
    have l2 : (wipeE ev vs).length = σ.length := (wipeE_len ev vs).trans hl
    have h : Rp K H (((wipe σ vs).set v none).zip e ++ ((((wipe σ vs)[v]?).join, frzS (wipeE ev vs)[v]?) :: (hidE σ ev vs ++ τ))) := h
    show (restE ev vs (e.set v (frzS (wipeE ev vs)[v]?))).length = _ ∧ Rp K H (σ.zip (restE ev vs (e.set v (frzS (wipeE ev vs)[v]?))) ++ τ)
    refine rest_ok hl (by rw [List.length_set]; exact he) ?_
    by_cases hv : v < σ.length
    · have e1 : (wipe σ vs)[v]? = some ((wipe σ vs)[v]'(by rw [l1]; exact hv)) := List.getElem?_eq_getElem _
      have d := Rp.put (i := v) (by rw [List.length_set, l1]; exact hv) (by rw [List.length_set, l1]; exact he) (h.perm List.perm_middle)
      rw [List.set_set, e1] at d
      have e3 : (wipe σ vs).set v (wipe σ vs)[v] = wipe σ vs := List.set_getElem_self ..
      have d' : Rp K H (((wipe σ vs).set v (wipe σ vs)[v]).zip (e.set v (frzS (wipeE ev vs)[v]?)) ++ (hidE σ ev vs ++ τ)) := d
      rw [e3] at d'
      exact d'
    · rw [List.set_eq_of_length_le (by omega)]
      rw [List.set_eq_of_length_le (by rw [l1]; omega)] at h
      exact h.sub (sub_app (List.sublist_cons_self _ _))
theorem wipe_get (σ : St) : ∀ (vs : List Nat) (i : Nat), (wipe σ vs)[i]? = if i ∈ vs ∧ i < σ.length then some none else σ[i]?
  | [], i => by simp [wipe]
  | v :: vs, i => by
    unfold wipe
    by_cases hv : v = i
    · subst hv
      by_cases hl : v < σ.length
      · rw [List.getElem?_set_self (by rw [wipe_length]; exact hl), if_pos ⟨List.mem_cons_self .., hl⟩]
      · rw [List.getElem?_eq_none (by rw [List.length_set, wipe_length]; omega), if_neg (fun z => hl z.2), List.getElem?_eq_none (by omega)]
    · rw [List.getElem?_set_ne hv, wipe_get σ vs i]
      have : (i ∈ v :: vs) ↔ i ∈ vs := by
        rw [List.mem_cons]
        exact ⟨fun z => z.elim (fun e => absurd e.symm hv) id, .inr⟩
      simp only [this]
theorem wipe_agr {O vs : List Nat} (ho : ∀ i ∈ O, i ∈ vs) {σ2 : St} (a : Agr O (wipe σ vs) σ2) : wipe σ2 vs = wipe σ vs := by
  have hl : σ2.length = σ.length := a.1.trans (wipe_length σ vs)
  refine List.ext_getElem? fun i => ?_
  rw [wipe_get, wipe_get, hl]
  by_cases h : i ∈ vs ∧ i < σ.length
  · rw [if_pos h, if_pos h]
  · rw [if_neg h, if_neg h]
    by_cases hi : i ∈ vs
    · have : σ.length ≤ i := by
        have : ¬ i < σ.length := fun z => h ⟨hi, z⟩
        omega
      rw [List.getElem?_eq_none (by omega), List.getElem?_eq_none this]
    · rw [a.2 i fun z => hi (ho i z), wipe_get, if_neg h]
end
theorem perm_lc (a b c : List Ent) : (a ++ (b ++ c)).Perm (b ++ (a ++ c)) := by
  rw [← List.append_assoc, ← List.append_assoc]
  exact List.perm_append_comm.append_right c
def dYes : Ev → R Bool := fun ev => .ok true ev
def dLcL (b : D → Ev → Option Ev) (ft : Ev → R Bool) (fe : Ev → R T) (vs : List Nat) : List D → List D → Ev → R (List D)
  | [], acc, e => .ok acc e
  | d :: ds, acc, e => match b d (wipeE e vs) with
    | none => .bad
    | some e1 => (ft e1).bind fun c e2 => if c = true then ((fe e2).bind fun t e3 => match fz1 t e3 with
        | some p => dLcL b ft fe vs ds (acc ++ [p.1]) p.2
        | none => .bad) else dLcL b ft fe vs ds acc e2
def dLc (fi : Ev → R (List D)) (b : D → Ev → Option Ev) (ft : Ev → R Bool) (fe : Ev → R T) (vs : List Nat) : Ev → R T := fun ev => (fi ev).bind fun ds ev1 => if ds.length ≤ 1000000 then (match dLcL b ft fe vs ds [] ev1 with
  | .ok acc e => .ok (.vl 1 (.lst acc)) (restE ev1 vs (wipeE e vs))
  | _ => .bad) else .bad
section
variable {K : PySem.W.Frag} {xm : XM} {O vs : List Nat} {wi : TI} {g : TG} {tt : TT} {te : TE} {fi : Ev → R (List D)} {b : D → Ev → Option Ev} {ft : Ev → R Bool} {fe : Ev → R T}
theorem wt_yes : WT K xm tYes dYes := fun σ τ H ev hl hr Q q => q true H hl hr rfl
theorem we_lc (ho : ∀ i ∈ O, i ∈ vs) (hi : WI K xm wi fi) (hg : WG K O g b) (ht : WT K XM.off tt ft) (he : WE K XM.off te fe) : WE K xm (tLc wi g tt te vs) (dLc fi b ft fe vs) := by
  intro σ τ H ev hl hr0
  have h1 := hi σ τ H ev hl hr0
  unfold dLc
  cases e0 : fi ev with
  | bad => trivial
  | exc n d ev' =>
    rw [e0] at h1
    exact fun ho hx Q => h1 ho hx _
  | ok ds ev1 =>
    rw [e0] at h1
    show Res K xm iT σ τ (if ds.length ≤ 1000000 then _ else _) _
    split
    · rename_i hz
      cases e1 : dLcL b ft fe vs ds [] ev1 with
      | bad => trivial
      | exc n d e => trivial
      | ok accf ef =>
        intro Q q
        refine h1 _ fun J H1 es hl1 hr1 hJ Dl hD => ?_
        have hr2 : Rp K H1 ((wipe σ vs).zip (wipeE ev1 vs) ++ (hidE σ ev1 vs ++ (es ++ τ))) := hide_ok hl1 hr1
        have hr3 : Rp K (upd H1 Dl (.lst [])) ((some (.ref Dl), .vl 1 (.lst [])) :: ((wipe σ vs).zip (wipeE ev1 vs) ++ (hidE σ ev1 vs ++ (es ++ τ)))) := by
          obtain ⟨F, A, c⟩ := hr2
          exact Rp.new c (.lst hD rfl)
        refine ⟨fun i m H' => m = ds.length - i ∧ i ≤ ds.length ∧ ∃ acc e, e.length = σ.length ∧ acc.length ≤ i ∧ Rp K H' ((some (.ref Dl), .vl 1 (.lst acc)) :: ((wipe σ vs).zip (wipeE e vs) ++ (hidE σ ev1 vs ++ (es ++ τ)))) ∧ dLcL b ft fe vs (ds.drop i) acc e = .ok accf ef,
          ⟨ds.length, rfl, Nat.zero_le _, [], ev1, hl1, Nat.zero_le _, hr3, e1⟩, ?_⟩
        rintro i m H' ⟨rfl, hi', acc, e, l1, la, r1, e2⟩
        have pJ : ((some (.ref Dl), .vl 1 (.lst acc)) :: ((wipe σ vs).zip (wipeE e vs) ++ (hidE σ ev1 vs ++ (es ++ τ)))).Perm (es ++ ((some (.ref Dl), .vl 1 (.lst acc)) :: ((wipe σ vs).zip (wipeE e vs) ++ (hidE σ ev1 vs ++ τ)))) := by
          exact List.Perm.trans (List.Perm.cons _ (List.Perm.trans (List.Perm.append_left _ (perm_lc _ _ _)) (perm_lc _ _ _))) List.perm_middle.symm
        have hjj := hJ i H' _ (r1.perm pJ)
        by_cases hlt : i < ds.length
        · refine .inr ⟨hjj.1 hlt, _, fun H2 q => q, fun x H2 hy => ?_⟩
          have ed : ds.drop i = ds[i] :: ds.drop (i + 1) := List.drop_eq_getElem_cons hlt
          have r2 := hjj.2.1 ds[i] x H2 (List.getElem?_eq_getElem hlt) hy
          rw [ed] at e2
          unfold dLcL at e2
          cases e3 : b ds[i] (wipeE e vs) with
          | none => rw [e3] at e2; cases e2
          | some e4 =>
            rw [e3] at e2
            have e2 : ((ft e4).bind fun c e2 => if c = true then ((fe e2).bind fun t e3 => match fz1 t e3 with | some p => dLcL b ft fe vs (ds.drop (i + 1)) (acc ++ [p.1]) p.2 | none => .bad) else dLcL b ft fe vs (ds.drop (i + 1)) acc e2) = .ok accf ef := e2
            have r3 : Rp K H2 ((wipe σ vs).zip (wipeE e vs) ++ ((some x, .vl 0 ds[i]) :: (((some (.ref Dl), .vl 1 (.lst acc)) :: (hidE σ ev1 vs ++ (es ++ τ)))))) := r2.perm (by
              refine List.Perm.trans (List.Perm.cons _ ?_) List.perm_middle.symm
              refine List.Perm.trans pJ.symm ?_
              exact List.perm_middle.symm)
            refine hg (wipe σ vs) _ H2 (wipeE e vs) x ds[i] e4 (by rw [wipeE_len, wipe_length]; exact l1) r3 e3 _ fun σ3 H3 k3 l3 r4 => ?_
            have hw := wipe_agr ho k3
            have hls : σ3.length = σ.length := k3.1.trans (wipe_length σ vs)
            refine ⟨hw, ?_⟩
            have h2 := ht σ3 _ H3 e4 l3 r4
            cases e5 : ft e4 with
            | bad => rw [e5] at e2; cases e2
            | exc n d e6 => rw [e5] at e2; cases e2
            | ok c e6 =>
              rw [e5] at h2 e2
              refine h2 _ fun c' H4 l4 r5 (ec : c = c') => ?_
              subst ec
              cases c with
              | false =>
                rw [if_neg Bool.false_ne_true]
                have e2 : dLcL b ft fe vs (ds.drop (i + 1)) acc e6 = .ok accf ef := e2
                have r6 := hide_ok l4 (vs := vs) r5
                rw [hw] at r6
                refine ⟨ds.length - (i + 1), by omega, rfl, hlt, acc, e6, by rw [l4, hls], by omega, ?_, e2⟩
                refine (r6.perm ?_)|>.sub (l := (hidE σ3 e6 vs) ++ ((some (.ref Dl), .vl 1 (.lst acc)) :: ((wipe σ vs).zip (wipeE e6 vs) ++ (hidE σ ev1 vs ++ (es ++ τ))))) (List.sublist_append_right _ _)
                refine List.Perm.trans (l₂ := (wipe σ vs).zip (wipeE e6 vs) ++ (hidE σ3 e6 vs ++ ((some (.ref Dl), .vl 1 (.lst acc)) :: (hidE σ ev1 vs ++ (es ++ τ))))) (List.Perm.refl _) ?_
                rw [← List.append_assoc]
                refine List.Perm.trans (List.perm_append_comm.append_right _) ?_
                rw [List.append_assoc]
                exact List.Perm.append_left _ List.perm_middle
              | true =>
                rw [if_pos rfl]
                have e2 : ((fe e6).bind fun t e3 => match fz1 t e3 with | some p => dLcL b ft fe vs (ds.drop (i + 1)) (acc ++ [p.1]) p.2 | none => .bad) = .ok accf ef := e2
                have h3 := he σ3 _ H4 e6 l4 r5
                cases e7 : fe e6 with
                | bad => rw [e7] at e2; cases e2
                | exc n d e8 => rw [e7] at e2; cases e2
                | ok t e8 =>
                  rw [e7] at h3 e2
                  refine h3 _ fun y H5 l5 r6 ho6 => ?_
                  have e2 : (match fz1 t e8 with | some p => dLcL b ft fe vs (ds.drop (i + 1)) (acc ++ [p.1]) p.2 | none => .bad) = .ok accf ef := e2
                  cases e9 : fz1 t e8 with
                  | none => rw [e9] at e2; cases e2
                  | some p =>
                    obtain ⟨dx, e10⟩ := p
                    rw [e9] at e2
                    have e2 : dLcL b ft fe vs (ds.drop (i + 1)) (acc ++ [dx]) e10 = .ok accf ef := e2
                    obtain ⟨l7, r7⟩ := fz1_ok l5 r6 ho6 e9
                    -- the new list
                    have r8 : Rp K H5 ((some (.ref Dl), .vl 1 (.lst acc)) :: ((some y, .vl 0 dx) :: (σ3.zip e10 ++ (hidE σ ev1 vs ++ (es ++ τ))))) := r7.perm (by
                      show (σ3.zip e10 ++ ((some y, .vl 0 dx) :: (some (.ref Dl), .vl 1 (.lst acc)) :: (hidE σ ev1 vs ++ (es ++ τ)))).Perm _
                      refine List.Perm.trans (List.Perm.append_left _ (List.Perm.swap ..)) ?_
                      refine List.Perm.trans List.perm_middle (List.Perm.cons _ List.perm_middle))
                    obtain ⟨F, A, c⟩ := r8
                    obtain ⟨A1, _, v', ev', a', acc0, ea, hacc, _, ow⟩ := c.sep.mem (List.mem_cons_self ..)
                    cases ev'
                    cases ea
                    obtain ⟨A2, _, v2, ev2, hz2⟩ := c.sep.mem (List.mem_cons_of_mem _ (List.mem_cons_self ..))
                    cases ev2
                    have hzs : Rzs K F acc0 acc := Ows.rzs ow
                    have r9 := Rp.wr c (hzs.append (Rzs.one hz2))
                    refine ⟨acc0, hacc, Nat.lt_of_lt_of_le (show acc0.length < 2000000 by rw [hzs.len]; omega) (by decide), ds.length - (i + 1), by omega, rfl, hlt, acc ++ [dx], e10, by rw [l7, hls], by rw [List.length_append]; simpa using la, ?_, e2⟩
                    have r10 : Rp K (upd H5 Dl (.lst (acc0 ++ [y]))) (σ3.zip e10 ++ ((some (.ref Dl), .vl 1 (.lst (acc ++ [dx]))) :: (hidE σ ev1 vs ++ (es ++ τ)))) := (r9.perm (List.Perm.swap ..)).tail.perm List.perm_middle.symm
                    have r11 := hide_ok l7 (vs := vs) r10
                    rw [hw] at r11
                    refine (r11.perm ?_)|>.sub (l := (hidE σ3 e10 vs) ++ ((some (.ref Dl), .vl 1 (.lst (acc ++ [dx]))) :: ((wipe σ vs).zip (wipeE e10 vs) ++ (hidE σ ev1 vs ++ (es ++ τ))))) (List.sublist_append_right _ _)
                    rw [← List.append_assoc]
                    refine List.Perm.trans (List.perm_append_comm.append_right _) ?_
                    rw [List.append_assoc]
                    exact List.Perm.append_left _ List.perm_middle
        · have e3 : i = ds.length := by omega
          subst e3
          rw [List.drop_length] at e2
          have e2 : R.ok acc e = .ok accf ef := e2
          cases e2
          refine .inl ⟨hjj.2.2 (Nat.le_refl _), ?_⟩
          have r4 : Rp K H' ((wipe σ vs).zip (wipeE ef vs) ++ (hidE σ ev1 vs ++ ((some (.ref Dl), .vl 1 (.lst accf)) :: (es ++ τ)))) := r1.perm (by
            refine List.Perm.trans List.perm_middle.symm (List.Perm.append_left _ List.perm_middle.symm))
          obtain ⟨g1, g2⟩ := rest_ok hl1 (by rw [wipeE_len]; exact l1) r4
          exact q _ H' g1 (g2.sub (sub_app (List.Sublist.cons_cons _ (List.sublist_append_right _ _)))) trivial
    · trivial
end
end DN

set_option Elab.async false
set_option linter.all false
set_option maxRecDepth 100000
set_option maxHeartbeats 1000000
namespace DN
open PySem PySem.Spec PyProof.Rows L2

/-! ### a def -/
def argOk (P : List Nat) : Nat → List Sl → Bool
  | _, [] => true
  | j, .vl 0 _ :: r => argOk P (j + 1) r
  | j, .io _ _ :: r => P.contains j && argOk P (j + 1) r
  | _, _ => false
def fin1 : Sl → Sl → Sl
  | .io _ _, e => e
  | a, _ => a
def fins : List Sl → Ev → List Sl
  | a :: as, e :: es => fin1 a e :: fins as es
  | as, _ => as
theorem fins_len : ∀ (as : List Sl) (e : Ev), (fins as e).length = as.length
  | [], e => by cases e <;> rfl
  | a :: as, [] => rfl
  | a :: as, e :: es => by show (fins as es).length + 1 = _; rw [fins_len as es]; rfl
def denOf (P : List Nat) (np n : Nat) (g : Ev → R Out) : FN := fun args => if args.length = np ∧ argOk P 0 args = true then (match g (args ++ List.replicate (n - np) .un) with
  | .ok .nx e => .ok (0, .non) (fins args e)
  | .ok (.rt (.vl k d)) e => .ok (k, d) (fins args e)
  | .ok (.rt (.al i)) e => (match e[i]? with
    | some (.vl k d) => .ok (k, d) (fins args (e.set i .un))
    | _ => .bad)
  | .exc n d e => .exc n d (fins args e)
  | _ => .bad) else .bad
def dupS (v : V) : Sl → Ent
  | .vl 0 d => (some v, .vl 0 d)
  | _ => (some v, .un)
def dupE : List V → List Sl → List Ent
  | v :: vs, a :: as => dupS v a :: dupE vs as
  | _, _ => []
section
variable {K : PySem.W.Frag} {H : Hp}
theorem uns_ok {l : List Ent} (h : Rp K H l) : ∀ n : Nat, Rp K H ((List.replicate n (none : Option V)).zip (List.replicate n Sl.un) ++ l)
  | 0 => h
  | n + 1 => (uns_ok h n).un
theorem dup_ok {P : List Nat} : ∀ {vs : List V} {as : List Sl} {j : Nat} {l : List Ent}, vs.length = as.length → argOk P j as = true → Rp K H ((vs.map some).zip as ++ l) → Rp K H ((vs.map some).zip as ++ (dupE vs as ++ l))
  | [], [], j, l, _, _, h => h
  | v :: vs, a :: as, j, l, hl, ha, h => by
    have h : Rp K H ((some v, a) :: ((vs.map some).zip as ++ l)) := h
    have key : ∀ x : Ent, (∃ j', argOk P j' as = true) → Rp K H ((some v, a) :: x :: ((vs.map some).zip as ++ l)) → Rp K H (((some v, a) :: (vs.map some).zip as) ++ ((x :: dupE vs as) ++ l)) := fun x ⟨j', hj⟩ hx => by
      have h2 : Rp K H ((vs.map some).zip as ++ ((some v, a) :: x :: l)) := hx.perm (by
        refine List.Perm.trans (List.Perm.cons _ List.perm_middle.symm) ?_
        exact List.perm_middle.symm)
      have h3 := dup_ok (by simpa using hl) hj h2
      refine h3.perm ?_
      show ((vs.map some).zip as ++ (dupE vs as ++ ((some v, a) :: x :: l))).Perm ((some v, a) :: ((vs.map some).zip as ++ (x :: (dupE vs as ++ l))))
      refine List.Perm.trans (List.Perm.append_left _ List.perm_middle) ?_
      refine List.Perm.trans List.perm_middle (List.Perm.cons _ (List.Perm.append_left _ List.perm_middle))
    unfold argOk at ha
    split at ha
    · rename_i e; cases e
    · rename_i d r e
      cases e
      exact key (some v, .vl 0 d) ⟨_, ha⟩ h.dup
    · rename_i k d r e
      cases e
      have ha2 := (Bool.and_eq_true_iff.mp ha).2
      exact key (some v, .un) ⟨_, ha2⟩ ((h.un (o := some v)).perm (List.Perm.swap ..))
    · cases ha
theorem join_ok {P : List Nat} : ∀ {vs : List V} {as : List Sl} {σ : St} {e : Ev} {l : List Ent} (i : Nat), vs.length = as.length → as.length ≤ σ.length → e.length = σ.length → (∀ (j : Nat) k d, as[j]? = some (.io k d) → σ[j]? = (vs.map some)[j]?) → argOk P i as = true →
    Rp K H (σ.zip e ++ (dupE vs as ++ l)) → Rp K H ((vs.map some).zip (fins as e) ++ l)
  | [], [], σ, e, l, _, _, _, _, _, _, h => by
    have : (List.map some ([] : List V)).zip (fins [] e) = [] := rfl
    rw [this]
    exact h.sub (List.sublist_append_right _ _)
  | v :: vs, a :: as, o :: σ, s :: e, l, i, h1, h2, h3, h4, h5, h => by
    have h : Rp K H ((o, s) :: (σ.zip e ++ (dupS v a :: (dupE vs as ++ l)))) := h
    have fin : (∃ i', argOk P i' as = true) → ∀ x : Ent, Rp K H (x :: (σ.zip e ++ (dupE vs as ++ l))) → Rp K H (x :: ((vs.map some).zip (fins as e) ++ l)) := fun ⟨i', hi'⟩ x hx => by
      have ih := join_ok (vs := vs) (as := as) (σ := σ) (e := e) (l := x :: l) i' (by simpa using h1) (by simpa using h2) (by simpa using h3) (fun j k d hj => by
        have := h4 (j + 1) k d (by simpa using hj)
        simpa using this) hi'
      refine (ih (hx.perm ?_)).perm List.perm_middle
      refine List.Perm.trans List.perm_middle.symm (List.Perm.append_left _ List.perm_middle.symm)
    have top : Rp K H ((o, s) :: (σ.zip e ++ (dupE vs as ++ l))) := h.sub (List.Sublist.cons_cons _ (sub_app (List.sublist_cons_self _ _)))
    have bot : Rp K H (dupS v a :: (σ.zip e ++ (dupE vs as ++ l))) := h.tail.perm List.perm_middle
    show Rp K H (((some v, fin1 a s) : Ent) :: ((vs.map some).zip (fins as e) ++ l))
    unfold argOk at h5
    split at h5
    · rename_i e; cases e
    · rename_i d r e
      cases e
      exact fin ⟨_, h5⟩ _ bot
    · rename_i k d r e
      cases e
      have := h4 0 k d rfl
      have ho : o = some v := by simpa using this
      rw [ho] at top
      exact fin ⟨_, (Bool.and_eq_true_iff.mp h5).2⟩ _ top
    · cases h5
theorem arg_io {P : List Nat} : ∀ {as : List Sl} {i j k : Nat} {d : D}, argOk P i as = true → as[j]? = some (.io k d) → i + j ∈ P
  | [], i, j, k, d, _, h => by simp at h
  | a :: as, i, j, k, d, ha, h => by
    cases a with
    | un => cases ha
    | vl k' d' =>
      cases k' with
      | succ _ => cases ha
      | zero =>
        have ha : argOk P (i + 1) as = true := ha
        cases j with
        | zero => simp at h
        | succ j =>
          have := arg_io ha (by simpa using h)
          rwa [show i + (j + 1) = i + 1 + j by omega]
    | io k' d' =>
      have hb := Bool.and_eq_true_iff.mp (show (P.contains i && argOk P (i + 1) as) = true from ha)
      cases j with
      | zero => simpa using hb.1
      | succ j =>
        have := arg_io hb.2 (by simpa using h)
        rwa [show i + (j + 1) = i + 1 + j by omega]
end
/-- THE RULE of a def that nothing is let out of -/
theorem fn_den {Pr : Program} {w : World} {K : PySem.W.Frag} {mg : Str → Option Value} {base : Heap} {x qual : Str} {params : Arguments} {body : List Stmt} {scope : Scope} {f : Addr} {fd : FuncData} {N ps : List Str} {k : Nat}
    (F : FunD K x qual params body scope [] [] f fd) (S : FnScope N ps scope) (P : List Nat) (g : Ev → R Out)
    (hb : ∀ (cdv : Value) (A : Around) (outer : List Env) (s : Shared) (H : Hp) (E : XK), Room k (A.deeper (envOfC qual scope s.heap.objs.size f cdv)) → ∃ t, PSs (cxOf CX0 Pr w K mg base N qual scope f cdv A outer s H E).nox body t ∧ WS K XM.off P t g) :
    FnOk Pr w K mg base CX0 (k + 1) f fd ps (spD K XM.off (denOf P ps.length N.length g)) := by
  have hpn : ps.length ≤ N.length := by have := congrArg List.length S.pre; rw [List.length_take] at this; omega
  refine F.ok S (fun vs H Q E h => ?_) (fun cdv A outer s H vs Q E hr h => ?_)
  · obtain ⟨args, τ, hl, _, hm⟩ := h
    unfold denOf at hm
    by_cases hc : args.length = ps.length ∧ argOk P 0 args = true
    · exact hl.symm.trans hc.1
    · simp only [if_neg hc] at hm
  · obtain ⟨t, h1, h2⟩ := hb cdv A outer s H E hr
    refine ⟨t, PSs.nox h1, ?_⟩
    obtain ⟨args, τ, hal, hr0, hm⟩ := h
    unfold denOf at hm
    by_cases hc : args.length = ps.length ∧ argOk P 0 args = true
    · simp only [if_pos hc] at hm
      obtain ⟨hc1, hc2⟩ := hc
      have hvl : vs.length = args.length := hal.symm
      have hd := dup_ok hvl hc2 hr0
      have est : start N vs = vs.map some ++ List.replicate (N.length - vs.length) none := rfl
      have ez : (start N vs).zip (args ++ List.replicate (N.length - ps.length) .un) = (vs.map some).zip args ++ (List.replicate (N.length - ps.length) (none : Option V)).zip (List.replicate (N.length - ps.length) Sl.un) := by
        rw [est, hvl, hc1]
        exact List.zip_append (by rw [List.length_map, hvl])
      have hst : Rp K H ((start N vs).zip (args ++ List.replicate (N.length - ps.length) .un) ++ (dupE vs args ++ τ)) := by
        rw [ez]
        refine (uns_ok hd (N.length - ps.length)).perm ?_
        rw [← List.append_assoc]
        refine List.Perm.append_right _ List.perm_append_comm
      have hsl : (args ++ List.replicate (N.length - ps.length) Sl.un).length = (start N vs).length := by
        rw [est, List.length_append, List.length_append, List.length_replicate, List.length_replicate, List.length_map, hvl, hc1]
      refine h2 (start N vs) (dupE vs args ++ τ) H _ hsl hst _ ?_
      have jn : ∀ {σ' : St} {H' : Hp} {e : Ev} {l : List Ent}, Keep P (start N vs) σ' → e.length = σ'.length → Rp K H' (σ'.zip e ++ (dupE vs args ++ l)) → Rp K H' ((vs.map some).zip (fins args e) ++ l) := fun {σ' H' e l} kp hl hx => by
        refine join_ok 0 hvl (by rw [kp.1, ← hsl, List.length_append]; omega) hl (fun j kk d hj => ?_) hc2 hx
        have hjP : j ∈ P := by simpa using arg_io hc2 hj
        have hja : j < args.length := (List.getElem?_eq_some_iff.mp hj).1
        rw [kp.2 j hjP, est, List.getElem?_append_left (by rw [List.length_map]; omega)]
      cases er : g (args ++ List.replicate (N.length - ps.length) .un) with
      | bad => rw [er] at hm; exact hm.elim
      | exc n d e => rw [er] at hm; exact hm.1.elim
      | ok o e =>
        rw [er] at hm
        cases o with
        | bk => exact hm.elim
        | ct => exact hm.elim
        | nx =>
          intro σ' H' kp hl hx
          obtain ⟨F', A', c⟩ := jn kp hl hx
          exact hm .non H' (fins_len _ _) (Rp.new c (.same rfl))
        | rt t =>
          cases t with
          | vl kk d =>
            intro v σ' H' kp hl hx _
            have hx2 : Rp K H' (σ'.zip e ++ (dupE vs args ++ ((some v, .vl kk d) :: τ))) := hx.perm (List.Perm.append_left _ List.perm_middle.symm)
            exact hm v H' (fins_len _ _) ((jn kp hl hx2).perm List.perm_middle)
          | al i =>
            intro v σ' H' kp hl hx ha
            have hm : (match (match e[i]? with | some (.vl k d) => R.ok (k, d) (fins args (e.set i .un)) | _ => .bad) with
              | .ok p fin => ∀ v H', fin.length = args.length → Rp K H' ((some v, .vl p.1 p.2) :: ((vs.map some).zip fin ++ τ)) → Q v H'
              | .exc n d fin => XM.off.on ∧ ∀ dd v H', fin.length = args.length → Rp K H' ((some v, .vl 0 d) :: ((vs.map some).zip fin ++ τ)) → H' dd = some (.xd [("value", v)]) → E (.ref (XM.off.cA n)) (some dd) H'
              | .bad => False) := hm
            split at hm
            · rename_i p fin e2
              split at e2
              · rename_i kk d e3
                cases e2
                have hx2 : Rp K H' (σ'.zip e ++ (dupE vs args ++ τ)) := hx.sub (sub_app (List.sublist_cons_self _ _))
                have hx3 := Rp.slot ha e3 hx2
                have hx4 : Rp K H' (σ'.zip (e.set i .un) ++ (dupE vs args ++ ((some v, .vl kk d) :: τ))) := hx3.perm (by
                  refine List.Perm.trans List.perm_middle.symm (List.Perm.append_left _ List.perm_middle.symm))
                exact hm v H' (fins_len _ _) ((jn kp (by rw [List.length_set]; exact hl) hx4).perm List.perm_middle)
              · cases e2
            · rename_i e2
              split at e2 <;> cases e2
            · exact hm.elim
    · simp only [if_neg hc] at hm
end DN

set_option Elab.async false
set_option linter.all false
set_option maxRecDepth 100000
set_option maxHeartbeats 1000000
namespace DN
open PySem PySem.Spec PyProof.Rows L2

/-! ### readings by their functions -/
section
variable (K : PySem.W.Frag) (xm : XM)
def CR {α γ : Type} (I : Ik α γ) (f : Ev → R α) (σ : St) (H : Hp) (Q : γ → Hp → Prop) : Prop := ∃ τ ev, ev.length = σ.length ∧ Rp K H (σ.zip ev ++ τ) ∧ match f ev with
  | .ok a ev' => ∀ g H', ev'.length = σ.length → Rp K H' (σ.zip ev' ++ (I.ent a g ++ τ)) → I.ok a g σ → Q g H'
  | .exc n d ev' => xm.on ∧ Exc K xm σ τ n d ev'
  | .bad => False
def tE (f : Ev → R T) : TE := CR K xm iT f
def tT (f : Ev → R Bool) : TT := CR K xm iB f
def tA (f : Ev → R (List T)) : TA := CR K xm iTs f
def tO (f : Ev → R (Option Int)) : TO := CR K xm iO f
def tS (P : List Nat) (g : Ev → R Out) : TS := fun D σ H => ∃ τ ev, ev.length = σ.length ∧ Rp K H (σ.zip ev ++ τ) ∧ SW K xm P σ τ (g ev) D
def tI (f : Ev → R (List D)) : TI := fun σ H Rr => ∃ τ ev, ev.length = σ.length ∧ Rp K H (σ.zip ev ++ τ) ∧ match f ev with
  | .ok ds ev' => ∀ J H' es, ev'.length = σ.length → Rp K H' (σ.zip ev' ++ (es ++ τ)) → ItOk K J es ds → Rr J H'
  | .exc n d ev' => xm.on ∧ Exc K xm σ τ n d ev'
  | .bad => False
def tG (O : List Nat) (b : D → Ev → Option Ev) : TG := fun v σ H Q => ∃ τ ev d ev', ev.length = σ.length ∧ Rp K H (σ.zip ev ++ ((some v, .vl 0 d) :: τ)) ∧ b d ev = some ev' ∧ ∀ σ' H', Agr O σ σ' → ev'.length = σ'.length → Rp K H' (σ'.zip ev' ++ τ) → Q σ' H'
def tGs (O : List Nat) (b : List D → Ev → Option Ev) : TGs := fun vs σ H Q => ∃ τ ev ds ev', ev.length = σ.length ∧ vs.length = ds.length ∧ Rp K H (σ.zip ev ++ (frE vs ds ++ τ)) ∧ b ds ev = some ev' ∧ ∀ σ' H', Agr O σ σ' → ev'.length = σ'.length → Rp K H' (σ'.zip ev' ++ τ) → Q σ' H'
end
section
variable {K : PySem.W.Frag} {xm : XM} {α γ : Type} {I : Ik α γ}
theorem CR.res (f : Ev → R α) {σ : St} {τ : List Ent} {H : Hp} {ev : Ev} (hl : ev.length = σ.length) (hr : Rp K H (σ.zip ev ++ τ)) : Res K xm I σ τ (f ev) (CR K xm I f σ H) := by
  cases e : f ev with
  | bad => trivial
  | exc n d ev' => exact fun ho hx Q => ⟨τ, ev, hl, hr, by rw [e]; exact ⟨ho, hx⟩⟩
  | ok a ev' => exact fun Q q => ⟨τ, ev, hl, hr, by rw [e]; exact q⟩
theorem CR.to {f : Ev → R α} {σ : St} {H : Hp} {Q : γ → Hp → Prop} {t : (γ → Hp → Prop) → Prop} (h : CR K xm I f σ H Q) (w : ∀ τ ev, ev.length = σ.length → Rp K H (σ.zip ev ++ τ) → Res K xm I σ τ (f ev) t) : t Q := by
  obtain ⟨τ, ev, hl, hr, hm⟩ := h
  have := w τ ev hl hr
  cases e : f ev with
  | bad => rw [e] at hm; exact hm.elim
  | exc n d ev' => rw [e] at hm this; exact this hm.1 hm.2 Q
  | ok a ev' => rw [e] at hm this; exact this Q hm
theorem we_can (f : Ev → R T) : WE K xm (tE K xm f) f := fun σ τ H ev hl hr => CR.res f hl hr
theorem wt_can (f : Ev → R Bool) : WT K xm (tT K xm f) f := fun σ τ H ev hl hr => CR.res f hl hr
theorem wa_can (f : Ev → R (List T)) : WA K xm (tA K xm f) f := fun σ τ H ev hl hr => CR.res f hl hr
theorem wo_can (f : Ev → R (Option Int)) : WO K xm (tO K xm f) f := fun σ τ H ev hl hr => CR.res f hl hr
theorem ws_can {P : List Nat} (g : Ev → R Out) : WS K xm P (tS K xm P g) g := fun σ τ H ev hl hr D w => ⟨τ, ev, hl, hr, w⟩
theorem wi_can (f : Ev → R (List D)) : WI K xm (tI K xm f) f := by
  intro σ τ H ev hl hr
  cases e : f ev with
  | bad => trivial
  | exc n d ev' => exact fun ho hx R => ⟨τ, ev, hl, hr, by rw [e]; exact ⟨ho, hx⟩⟩
  | ok ds ev' => exact fun R q => ⟨τ, ev, hl, hr, by rw [e]; exact q⟩
theorem wg_can {O : List Nat} (b : D → Ev → Option Ev) : WG K O (tG K O b) b := fun σ τ H ev v d ev' hl hr hb Q q => ⟨τ, ev, d, ev', hl, hr, hb, q⟩
theorem wgs_can {O : List Nat} (b : List D → Ev → Option Ev) : WGs K O (tGs K O b) b := fun σ τ H ev vs ds ev' hl hv hr hb Q q => ⟨τ, ev, ds, ev', hl, hv, hr, hb, q⟩
end
section
variable (X : Cx) (xm : XM)
def PX (e : Expr) (f : Ev → R T) : Prop := PE X e (tE X.K xm f)
def PXt (e : Expr) (f : Ev → R Bool) : Prop := PT X e (tT X.K xm f)
def PXw (e : Expr) (f : Ev → R Bool) : Prop := PW X e (tT X.K xm f)
def PXa (es : List Expr) (f : Ev → R (List T)) : Prop := PA X es (tA X.K xm f)
def PXk (ks : List Keyword) (f : Ev → R (List T)) : Prop := PK X ks (tA X.K xm f)
def PXo (e : Option Expr) (f : Ev → R (Option Int)) : Prop := PO X e (tO X.K xm f)
def PXs (P : List Nat) (st : Stmt) (g : Ev → R Out) : Prop := PS X st (tS X.K xm P g)
def PXb (P : List Nat) (st : List Stmt) (g : Ev → R Out) : Prop := PSs X st (tS X.K xm P g)
def PXi (tg it : Expr) (f : Ev → R (List D)) : Prop := PI X tg it (tI X.K xm f)
def PXg (O : List Nat) (tg : Expr) (b : D → Ev → Option Ev) : Prop := PG X tg (tG X.K O b)
def PXgs (O : List Nat) (tg : List Expr) (b : List D → Ev → Option Ev) : Prop := PGs X tg (tGs X.K O b)
def PXts (ifs : List Expr) (f : Ev → R Bool) : Prop := PTs X ifs (tT X.K xm f)
end
section
variable {X : Cx} {xm : XM} {P O : List Nat}
theorem PX.of {e : Expr} {t : TE} {f : Ev → R T} (h : PE X e t) (w : WE X.K xm t f) : PX X xm e f :=
  ⟨fun pins s σ H Q I q => h.run pins s σ H Q I (CR.to q fun τ ev hl hr => w σ τ H ev hl hr)⟩
theorem PXt.of {e : Expr} {t : TT} {f : Ev → R Bool} (h : PT X e t) (w : WT X.K xm t f) : PXt X xm e f :=
  ⟨fun pins s σ H Q I q => h.run pins s σ H Q I (CR.to q fun τ ev hl hr => w σ τ H ev hl hr)⟩
theorem PXw.of {e : Expr} {t : TT} {f : Ev → R Bool} (h : PW X e t) (w : WT X.K xm t f) : PXw X xm e f :=
  ⟨fun wh pins s σ H Q I q => h.run wh pins s σ H Q I (CR.to q fun τ ev hl hr => w σ τ H ev hl hr)⟩
theorem PXa.of {e : List Expr} {t : TA} {f : Ev → R (List T)} (h : PA X e t) (w : WA X.K xm t f) : PXa X xm e f :=
  ⟨fun pos pins s σ H Q I q => h.run pos pins s σ H Q I (CR.to q fun τ ev hl hr => w σ τ H ev hl hr)⟩
theorem PXk.of {e : List Keyword} {t : TA} {f : Ev → R (List T)} (h : PK X e t) (w : WA X.K xm t f) : PXk X xm e f :=
  ⟨fun pos pins s σ H Q I q => h.run pos pins s σ H Q I (CR.to q fun τ ev hl hr => w σ τ H ev hl hr)⟩
theorem PXo.of {e : Option Expr} {t : TO} {f : Ev → R (Option Int)} (h : PO X e t) (w : WO X.K xm t f) : PXo X xm e f := by
  obtain ⟨h⟩ := h
  exact ⟨fun pins s σ H Q I q => h pins s σ H Q I (CR.to q fun τ ev hl hr => w σ τ H ev hl hr)⟩
theorem PXs.of {st : Stmt} {t : TS} {g : Ev → R Out} (h : PS X st t) (w : WS X.K xm P t g) : PXs X xm P st g :=
  ⟨fun pins s σ H D I ⟨τ, ev, hl, hr, q⟩ => h.run pins s σ H D I (w σ τ H ev hl hr D q)⟩
theorem PXb.of {st : List Stmt} {t : TS} {g : Ev → R Out} (h : PSs X st t) (w : WS X.K xm P t g) : PXb X xm P st g :=
  ⟨fun pins s σ H D I ⟨τ, ev, hl, hr, q⟩ => h.run pins s σ H D I (w σ τ H ev hl hr D q)⟩
theorem PXg.of {tg : Expr} {t : TG} {b : D → Ev → Option Ev} (h : PG X tg t) (w : WG X.K O t b) : PXg X O tg b :=
  ⟨fun pins s σ H v u Q I r ⟨τ, ev, d, ev', hl, hr, hb, q⟩ => h.run pins s σ H v u Q I r (w σ τ H ev v d ev' hl hr hb Q q)⟩
theorem PXgs.of {tg : List Expr} {t : TGs} {b : List D → Ev → Option Ev} (h : PGs X tg t) (w : WGs X.K O t b) : PXgs X O tg b :=
  ⟨fun pins s σ H v u Q I r ⟨τ, ev, d, ev', hl, hv, hr, hb, q⟩ => h.run pins s σ H v u Q I r (w σ τ H ev v d ev' hl hv hr hb Q q)⟩
theorem PXi.of {tg it : Expr} {t : TI} {f : Ev → R (List D)} (h : PI X tg it t) (w : WI X.K xm t f) : PXi X xm tg it f :=
  ⟨fun pins s σ H Rr I ⟨τ, ev, hl, hr, q⟩ => h.run pins s σ H Rr I (by
    have := w σ τ H ev hl hr
    cases e : f ev with
    | bad => rw [e] at q; exact q.elim
    | exc n d ev' => rw [e] at q this; exact this q.1 q.2 Rr
    | ok ds ev' => rw [e] at q this; exact this Rr q)⟩
theorem PXts.of {e : List Expr} {t : TT} {f : Ev → R Bool} (h : PTs X e t) (w : WT X.K xm t f) : PXts X xm e f :=
  ⟨fun pins s σ H Q I q => h.run pins s σ H Q I (CR.to q fun τ ev hl hr => w σ τ H ev hl hr)⟩
theorem pe_or {e : Expr} {t u : TE} (h1 : PE X e t) (h2 : PE X e u) : PE X e (fun σ H Q => t σ H Q ∨ u σ H Q) :=
  ⟨fun pins s σ H Q I q => q.elim (h1.run pins s σ H Q I) (h2.run pins s σ H Q I)⟩
theorem pi_or {tg it : Expr} {t u : TI} (h1 : PI X tg it t) (h2 : PI X tg it u) : PI X tg it (fun σ H Q => t σ H Q ∨ u σ H Q) :=
  ⟨fun pins s σ H Q I q => q.elim (h1.run pins s σ H Q I) (h2.run pins s σ H Q I)⟩

variable {a b c : Expr} {es : List Expr} {fa fb fc : Ev → R T} {fr : Ev → R (List T)} {ft fu : Ev → R Bool} {fl fh : Ev → R (Option Int)} {fi : Ev → R (List D)} {pos p p2 : Pos} {x : Str}
/-! ### expressions -/
theorem px_var (i : Nat) (hN : X.N[i]? = some x := by rfl) (hv : Vis X.env.scope x := by first | exact Or.inl rfl | exact Or.inr (Or.inl rfl) | exact Or.inr (Or.inr rfl)) (hd : (x == ("__debug__" : Str)) = false := by decide)
    (hcd : (x == ("__classdict__" : Str)) = false := by decide) : PX X xm (.Name x pos) (dVar i) := PX.of (pe_var hN hv hd hcd) we_var
theorem px_int {i : Int} {j : Nat} : PX X xm (.Constant (.int i) j pos) (dC (.int i)) := PX.of pe_int (we_c fun _ => rfl)
theorem px_bl {i : Bool} {j : Nat} : PX X xm (.Constant (.bool i) j pos) (dC (.bl i)) := PX.of pe_bl (we_c fun _ => rfl)
theorem px_non {j : Nat} : PX X xm (.Constant .none j pos) (dC .non) := PX.of pe_non (we_c fun _ => rfl)
theorem str_toArray (x : Str) : (⟨x.cps.toList.toArray⟩ : Str) = x := by cases x; simp
theorem px_str {j : Nat} {s : List Nat} (h : x.cps.toList = s) : PX X xm (.Constant (.str x) j pos) (dC (.str s)) := PX.of pe_str (we_c fun _ => by
  show V.str x = V.str ⟨s.toArray⟩
  rw [← h, str_toArray])
theorem px_glob {v : V} {d : D} {u : Value} (hg : Gl X x) (hm : X.mg x = some u) (r : RelV v u) (hd : ∀ F, Rz X.K F v d) (hdb : (x == ("__debug__" : Str)) = false := by decide) : PX X xm (.Name x pos) (dC d) := PX.of (pe_glob hg hm r hdb) (we_c hd)
theorem px_op {op : Operator} {r : R2} {g : D → D → Option (Nat × D)} (ho : OpR X (binaryOp op) r ∧ Op2 X.K r g) (ha : PX X xm a fa) (hb : PX X xm b fb) : PX X xm (.BinOp a op b pos) (dOp g fa fb) :=
  PX.of (pe_op ho.1 ha hb) (we_op ho.2 (we_can _) (we_can _))
theorem px_un {op : UnaryOp} {r : V → Hp → VK → Prop} {g : D → Option (Nat × D)} (ho : UnR X (unaryOp op) r ∧ Op1 X.K r g) (ha : PX X xm a fa) : PX X xm (.UnaryOp op a pos) (dUn g fa) :=
  PX.of (pe_un ho.1 ha) (we_un ho.2 (we_can _))
theorem px_cmp {op : CmpOp} {r : R2} {g : D → D → Option (Nat × D)} (ho : OpR X (compareOp op) r ∧ Op2 X.K r g) (ha : PX X xm a fa) (hb : PX X xm b fb) (hm : behindInMarks op b = false := by first | exact nomark _ (by decide) (by decide) | rfl) : PX X xm (.Compare a [op] [b] pos) (dOp g fa fb) :=
  PX.of (pe_cmpR ho.1 ha hb hm) (we_op ho.2 (we_can _) (we_can _))
theorem pxt_cmp {op : CmpOp} {r : R2} {g : D → D → Option (Nat × D)} (ho : OpR X (compareOp op) r ∧ Op2 X.K r g) (ha : PX X xm a fa) (hb : PX X xm b fb) (hm : behindInMarks op b = false := by first | exact nomark _ (by decide) (by decide) | rfl) : PXt X xm (.Compare a [op] [b] pos) (dTest (dOp g fa fb)) :=
  PXt.of (pt_cmpR ho.1 ha hb hm) (wt_test (we_op ho.2 (we_can _) (we_can _)))
/-- a test by a value that is a bool -/
theorem pxt_val (ha : PX X xm a fa) (he : ∀ whole, isTrue a X.env whole = (do let v ← whole; standAt a.pos; holding [v] (truthy v)) := by intro _; rfl) : PXt X xm a (dTest fa) :=
  PXt.of (t := tTest _) (pt_val ha he) (wt_test (we_can _))
theorem pxw_and1 (h : PXt X xm a ft) : PXw X xm (.BoolOp .And [a] pos) ft := PXw.of (pw_and1 h) (wt_can _)
theorem pxw_or1 (h : PXt X xm a ft) : PXw X xm (.BoolOp .Or [a] pos) ft := PXw.of (pw_or1 h) (wt_can _)
theorem pxw_and (h : PXt X xm a ft) (h2 : PXw X xm (.BoolOp .And (b :: es) pos) fu) : PXw X xm (.BoolOp .And (a :: b :: es) pos) (dAnd ft fu) := PXw.of (pw_and h h2) (wt_and (wt_can _) (wt_can _))
theorem pxw_or (h : PXt X xm a ft) (h2 : PXw X xm (.BoolOp .Or (b :: es) pos) fu) : PXw X xm (.BoolOp .Or (a :: b :: es) pos) (dOr ft fu) := PXw.of (pw_or h h2) (wt_or (wt_can _) (wt_can _))
theorem pxt_w (h : PXw X xm a ft) : PXt X xm a ft := PW.pt h
theorem pxt_not (h : PXt X xm a ft) : PXt X xm (.UnaryOp .Not a pos) (dNot ft) := PXt.of (pt_not h) (wt_not (wt_can _))
theorem px_one {op : BoolOp} (h : PX X xm a fa) : PX X xm (.BoolOp op [a] pos) fa := PX.of (pe_one h) (we_can _)
theorem px_and (h : PX X xm a fa) (h2 : PX X xm (.BoolOp .And (b :: es) pos) fb) : PX X xm (.BoolOp .And (a :: b :: es) pos) (dAndV fa fb) := PX.of (pe_and h h2) (we_andV (we_can _) (we_can _))
theorem px_orv (h : PX X xm a fa) (h2 : PX X xm (.BoolOp .Or (b :: es) pos) fb) : PX X xm (.BoolOp .Or (a :: b :: es) pos) (dOrV fa fb) := PX.of (L2.pe_or h h2) (we_orV (we_can _) (we_can _))
theorem px_not (h : PX X xm a fa) : PX X xm (.UnaryOp .Not a pos) (dNotV fa) := PX.of (pe_not h) (we_notV (we_can _))
theorem px_if (hc : PXt X xm c ft) (ha : PX X xm a fa) (hb : PX X xm b fb) : PX X xm (.IfExp c a b pos) (dIf ft fa fb) := PX.of (pe_ifExp hc ha hb) (we_if (wt_can _) (we_can _) (we_can _))
theorem px_frz (h : PX X xm a fa) : PX X xm a (dFrz fa) := PX.of h (we_frz (we_can _))
theorem pxa_nil : PXa X xm [] dNil := PXa.of pa_nil wa_nil
theorem pxa_cons (ha : PX X xm a fa) (hr : PXa X xm es fr) (hs : starEach (a :: es) X.env = (false, eval a X.env) :: starEach es X.env := by rfl) : PXa X xm (a :: es) (dCons fa fr) := PXa.of (pa_cons ha hr hs) (wa_cons (we_can _) (wa_can _))
theorem px_tup {x1} (h : PXa X xm es fr) : PX X xm (.Tuple es x1 pos) (dTupE fr) := PX.of (pe_tup h) (we_tup (wa_can _))
theorem px_lst (h : PXa X xm es fr) : PX X xm (.List es pos) (dLstE fr) := PX.of (pe_lst h) (we_lst (wa_can _))
theorem px_ix {r : R2} {g : D → D → Option (Nat × D)} (ho : IxR X r ∧ Op2 X.K r g) (ha : PX X xm a fa) (hb : PX X xm b fb) (hs : PlainIx b := by exact fun _ _ => rfl) : PX X xm (.Subscript a b pos) (dOp g fa fb) :=
  PX.of (pe_ix ho.1 ha hb hs) (we_op ho.2 (we_can _) (we_can _))
theorem pxo_none : PXo X xm none dNoPart := PXo.of po_none wo_none
theorem pxo_some (h : PX X xm a fa) : PXo X xm (some a) (dPart fa) := PXo.of (po_some h) (wo_some (we_can _))
theorem px_sl {r : V → Option Int → Option Int → Hp → VK → Prop} {g : D → Option Int → Option Int → Option (Nat × D)} {lo hi : Option Expr} (ho : SlR X r ∧ OpS X.K r g) (ha : PX X xm a fa) (hl : PXo X xm lo fl) (hh : PXo X xm hi fh) :
    PX X xm (.Subscript a (.Slice lo hi none p2) pos) (dSl g fa fl fh) := PX.of (pe_slice ho.1 ha hl hh) (we_sl ho.2 (we_can _) (wo_can _) (wo_can _))
/-- a builtin, a built-in class, by its name -/
theorem px_callB {id : String} {r : List V → Hp → VK → Prop} {g : List D → Option (Nat × D)} {e : Expr} (ho : CallR X (.builtin id) r ∧ OpN X.K r g) (hg : Gl X x) (hm : X.mg x = none) (hv : bootBuiltins x = some (.builtin id)) (ha : PXa X xm (e :: es) fr)
    (hn : x ≠ "__name__" := by decide) (hdb : (x == ("__debug__" : Str)) = false := by decide) (he : starEach (e :: es) X.env = (false, eval e X.env) :: starEach es X.env := by rfl) (hpl : (backTo pos (starEach es X.env)).any (·.1) = false := by rfl) :
    PX X xm (.Call (.Name x p) (e :: es) [] pos) (dCB g fr) := PX.of (pe_callB ho.1 hg hm hv ha hn hdb he hpl) (we_cb ho.2 (wa_can _))
theorem px_callTy {ty : String} {r : List V → Hp → VK → Prop} {g : List D → Option (Nat × D)} {e : Expr} (ho : CallR X (.type ty) r ∧ OpN X.K r g) (hg : Gl X x) (hm : X.mg x = none) (hv : bootBuiltins x = some (.type ty)) (ha : PXa X xm (e :: es) fr)
    (hn : x ≠ "__name__" := by decide) (hdb : (x == ("__debug__" : Str)) = false := by decide) (he : starEach (e :: es) X.env = (false, eval e X.env) :: starEach es X.env := by rfl) (hpl : (backTo pos (starEach es X.env)).any (·.1) = false := by rfl) :
    PX X xm (.Call (.Name x p) (e :: es) [] pos) (dCB g fr) := PX.of (pe_callTy ho.1 hg hm hv ha hn hdb he hpl) (we_cb ho.2 (wa_can _))
end

/-! ### a built-in type's method -/
def tyD : String → D → Bool
  | "str", .str _ => true
  | "list", .lst _ => true
  | "list", .fls _ => true
  | "dict", .dic _ _ => true
  | _, _ => false
theorem tyV_of {K : PySem.W.Frag} {F H : Hp} {ty : String} {x : V} {d : D} (hf : Le F H) (h : EFv K F H x d) (ht : tyD ty d = true) : tyV K ty x H := by
  unfold tyD at ht
  split at ht
  · have h : x = .str _ := h
    subst h
    rfl
  · obtain ⟨a, xs, rfl, h1, _⟩ := h
    exact .inl ⟨rfl, xs, SqL.of h1⟩
  · obtain ⟨a, xs, rfl, h1, _⟩ := h
    exact .inl ⟨rfl, xs, sqL_le hf h1⟩
  · obtain ⟨a, xs, rfl, h1, _⟩ := h
    refine .inr (.inr (.inl ⟨rfl, ?_⟩))
    rcases h1 with ⟨kvs, h1, _⟩ | ⟨kvs, h1, _⟩
    · exact .inl ⟨kvs, h1⟩
    · exact .inr ⟨kvs, h1⟩
  · cases ht
def dBM (ty : String) (f : D → List D → Option (Nat × D)) (fo : Ev → R T) (fa : Ev → R (List T)) : Ev → R T := fun ev => (fo ev).bind fun t ev1 => match (t.rd ev1).map (tyD ty) with
  | some true => (fa ev1).bind fun ts ev2 => match t.rd ev2, rds ts ev2 with
    | some d, some ds => out (f d ds) ev2
    | _, _ => .bad
  | _ => .bad
end DN

set_option Elab.async false
set_option linter.all false
set_option maxRecDepth 100000
set_option maxHeartbeats 1000000
namespace DN
open PySem PySem.Spec PyProof.Rows L2

section
variable {K : PySem.W.Frag} {xm : XM} {to : TE} {tr : TA} {fo : Ev → R T} {fr : Ev → R (List T)}
theorem we_bm {ty : String} {r : V → List V → Hp → VK → Prop} {g : D → List D → Option (Nat × D)} (hr : OpM K r g) (ha : WE K xm to fo) (hb : WA K xm tr fr) : WE K xm (tBM K ty r to tr) (dBM ty g fo fr) := by
  intro σ τ H ev hl hr0
  refine Res.bind (k := fun x H1 Q => tyV K ty x H1 ∧ tr σ H1 fun xs H2 => r x xs H2 Q) (ha σ τ H ev hl hr0) fun t v ev1 H1 _ hl1 hr1 ho1 => ?_
  split
  · rename_i e
    have hty : tyV K ty v H1 := by
      obtain ⟨F, A, c⟩ := id hr1
      cases e2 : t.rd ev1 with
      | none => rw [e2] at e; cases e
      | some d =>
        rw [e2] at e
        have e : some (tyD ty d) = some true := e
        exact tyV_of c.sub (rd_ef c (mem_ent σ v t τ) ho1 e2) (Option.some.inj e)
    refine Res.imp (Res.bind (k := fun xs H2 Q => r v xs H2 Q) (hb σ _ H1 ev1 hl1 hr1) fun ts vs ev2 H2 _ hl2 hr2 ho2 => ?_) fun Q q => ⟨hty, q⟩
    cases e1 : t.rd ev2 with
    | none => trivial
    | some d =>
      cases e' : rds ts ev2 with
      | none => trivial
      | some ds => exact res_out hl2 hr2 fun F A k d' c ho Q q => hr F H2 v vs d ds k d' c.sub (rd_ef c (List.mem_append_right _ (mem_ent σ v t τ)) ho1 e1) (rds_ef c (fun p hp => List.mem_append_left _ hp) ho2 e') ho Q q
  · trivial
theorem we_bm0 {ty : String} {r : V → List V → Hp → VK → Prop} {g : D → List D → Option (Nat × D)} (hr : OpM K r g) (ha : WE K xm to fo) : WE K xm (tBM0 K ty r to) (dBM ty g fo dNil) := by
  have h := we_bm (ty := ty) hr ha (wa_nil (K := K) (xm := xm))
  intro σ τ H ev hl hr0
  exact (h σ τ H ev hl hr0).imp fun Q q => q

/-! ### calls with keywords -/
def pick {α : Type} (ix : List Nat) (l : List α) : List α := ix.filterMap fun i => l[i]?
theorem pick_cons {α : Type} (i : Nat) (ix : List Nat) (l : List α) : pick (i :: ix) l = (match l[i]? with | some x => x :: pick ix l | none => pick ix l) := by
  unfold pick
  rw [List.filterMap_cons]
  cases l[i]? <;> rfl
theorem vals_pick {vs : List V} {us : List Value} (r : Vals vs us) : ∀ ix : List Nat, Vals (pick ix vs) (pick ix us)
  | [] => .nil
  | i :: ix => by
    rw [pick_cons, pick_cons]
    cases e : vs[i]? with
    | none => rw [r.none_of e]; exact vals_pick r ix
    | some x =>
      obtain ⟨u, e2, ru⟩ := r.get e
      rw [e2]
      exact .cons ru (vals_pick r ix)
def dAppA (n m : Nat) (f1 f2 : Ev → R (List T)) : Ev → R (List T) := fun ev => (f1 ev).bind fun ts ev1 => (f2 ev1).bind fun us ev2 => if ts.length = n ∧ us.length = m then .ok (ts ++ us) ev2 else .bad
def tAppA (n m : Nat) (t1 t2 : TA) : TA := fun σ H Q => t1 σ H fun vs H1 => t2 σ H1 fun zs H2 => vs.length = n ∧ zs.length = m ∧ Q (vs ++ zs) H2
theorem okTs_len : ∀ {ts : List T} {vs : List V} {σ : St}, okTs ts vs σ → ts.length = vs.length
  | [], [], _, _ => rfl
  | t :: ts, v :: vs, σ, h => congrArg (· + 1) (okTs_len h.2)
theorem entTs_app : ∀ {ts us : List T} {vs zs : List V} {σ : St}, okTs ts vs σ → okTs us zs σ → entTs (ts ++ us) (vs ++ zs) = entTs ts vs ++ entTs us zs ∧ okTs (ts ++ us) (vs ++ zs) σ
  | [], us, [], zs, σ, _, h => ⟨rfl, h⟩
  | t :: ts, us, v :: vs, zs, σ, h1, h2 => by
    obtain ⟨e, o⟩ := entTs_app h1.2 h2
    exact ⟨congrArg (fun l => (some v, t.sl) :: l) e, h1.1, o⟩
theorem wa_app {n m : Nat} {t1 t2 : TA} {f1 f2 : Ev → R (List T)} (h1 : WA K xm t1 f1) (h2 : WA K xm t2 f2) : WA K xm (tAppA n m t1 t2) (dAppA n m f1 f2) := by
  intro σ τ H ev hl hr0
  have q1 := h1 σ τ H ev hl hr0
  unfold dAppA
  cases e1 : f1 ev with
  | bad => trivial
  | exc n d ev1 =>
    rw [e1] at q1
    exact fun ho hx Q => q1 ho hx _
  | ok ts ev1 =>
    rw [e1] at q1
    show Res K xm iTs σ τ ((f2 ev1).bind fun us ev2 => if ts.length = n ∧ us.length = m then .ok (ts ++ us) ev2 else .bad) (tAppA n m t1 t2 σ H)
    have q2 : ∀ vs H1, ev1.length = σ.length → Rp K H1 (σ.zip ev1 ++ (entTs ts vs ++ τ)) → Res K xm iTs σ (entTs ts vs ++ τ) (f2 ev1) (t2 σ H1) := fun vs H1 hl1 hr1 => h2 σ _ H1 ev1 hl1 hr1
    cases e : f2 ev1 with
    | bad => trivial
    | exc n d ev2 =>
      rw [e] at q2
      intro ho hx Q
      refine q1 _ fun vs H1 hl1 hr1 ho1 => q2 vs H1 hl1 hr1 ho hx.weak _
    | ok us ev2 =>
      rw [e] at q2
      show Res K xm iTs σ τ (if ts.length = n ∧ us.length = m then .ok (ts ++ us) ev2 else .bad) (tAppA n m t1 t2 σ H)
      split
      case isFalse => trivial
      rename_i hlen
      intro Q q
      refine q1 _ fun vs H1 hl1 hr1 ho1 => q2 vs H1 hl1 hr1 _ fun zs H2 hl2 hr2 ho2 => ?_
      obtain ⟨g1, g2⟩ := entTs_app ho1 ho2
      refine ⟨(okTs_len ho1).symm.trans hlen.1, (okTs_len ho2).symm.trans hlen.2, q (vs ++ zs) H2 hl2 (hr2.perm ?_) g2⟩
      show (σ.zip ev2 ++ (entTs us zs ++ (entTs ts vs ++ τ))).Perm (σ.zip ev2 ++ (entTs (ts ++ us) (vs ++ zs) ++ τ))
      rw [g1, List.append_assoc]
      exact List.Perm.append_left _ (perm_lc _ _ _)
def dCallK (den : FN) (ix : List Nat) (fr : Ev → R (List T)) : Ev → R T := fun ev => (fr ev).bind fun ts ev1 => match fzs ts ev1 with
  | some (ds, ev2) => (match den ((pick ix ds).map fun d => .vl 0 d) with
    | .ok p fin => if fin.length = (pick ix ds).length then .ok (.vl p.1 p.2) ev2 else .bad
    | .exc n d fin => if fin.length = (pick ix ds).length then .exc n d ev2 else .bad
    | .bad => .bad)
  | none => .bad
/-- frozen entries may be taken as often as one likes -/
theorem frE_get : ∀ {vs : List V} {ds : List D} {i : Nat} {v : V}, vs.length = ds.length → vs[i]? = some v → ∃ d, ds[i]? = some d ∧ ((some v, .vl 0 d) : Ent) ∈ frE vs ds
  | [], _, _, _, _, h => by simp at h
  | x :: vs, [], _, _, hl, _ => by cases hl
  | x :: vs, d :: ds, 0, v, hl, h => by
    simp at h
    subst h
    exact ⟨d, rfl, List.mem_cons_self ..⟩
  | x :: vs, d :: ds, i + 1, v, hl, h => by
    obtain ⟨e, h1, h2⟩ := frE_get (i := i) (by simpa using hl) (by simpa using h)
    exact ⟨e, by simpa using h1, List.mem_cons_of_mem _ h2⟩
theorem Rp.again {H : Hp} {l : List Ent} {v : V} {d : D} (h : Rp K H l) (hm : ((some v, .vl 0 d) : Ent) ∈ l) : Rp K H ((some v, .vl 0 d) :: l) := by
  obtain ⟨F, A, c⟩ := h
  obtain ⟨A', _, v', e, hz⟩ := c.sep.mem hm
  cases e
  exact Rp.new c (.same hz)
theorem pick_ok {H : Hp} {l0 : List Ent} {vs : List V} {ds : List D} (hl : vs.length = ds.length) : ∀ (ix : List Nat) {l : List Ent}, (∀ p ∈ frE vs ds, p ∈ l) → Rp K H l →
    (pick ix vs).length = (pick ix ds).length ∧ Rp K H (((pick ix vs).map some).zip ((pick ix ds).map fun d => .vl 0 d) ++ l)
  | [], l, hm, h => ⟨rfl, h⟩
  | i :: ix, l, hm, h => by
    obtain ⟨g1, g2⟩ := pick_ok (l0 := l0) hl ix hm h
    rw [pick_cons, pick_cons]
    cases e : vs[i]? with
    | none =>
      have e2 : ds[i]? = none := List.getElem?_eq_none (by rw [← hl]; exact List.getElem?_eq_none_iff.mp e)
      rw [e2]
      exact ⟨g1, g2⟩
    | some v =>
      obtain ⟨d, e2, hmem⟩ := frE_get hl e
      rw [e2]
      exact ⟨by simp [g1], g2.again (List.mem_append_right _ (hm _ hmem))⟩
theorem we_callK {te : TE} {den : FN} {ix : List Nat} (ha : WA K xm tr fr) (E : St → XK) (hE : xm.on → E = xm.E) (ht : ∀ σ H Q, (tr σ H fun vs H1 => spD K xm den (pick ix vs) H1 Q (E σ)) → te σ H Q) : WE K xm te (dCallK den ix fr) := by
  intro σ τ H ev hl hr0
  refine Res.imp (c := fun Q => tr σ H fun vs H1 => spD K xm den (pick ix vs) H1 Q (E σ)) (Res.bindC (k := fun vs H1 Q => spD K xm den (pick ix vs) H1 Q (E σ)) (ha σ τ H ev hl hr0) fun ts vs ev1 H1 _ hl1 hr1 ho1 => ?_) fun Q q => ht σ H Q q
  split
  · rename_i ds ev2 e
    obtain ⟨h1, h2, h3⟩ := fzs_ok hl1 hr1 ho1 e
    obtain ⟨p1, p2⟩ := pick_ok (l0 := []) h2 ix (fun p hp => List.mem_append_right _ (List.mem_append_left _ hp)) h3
    have al : ((pick ix ds).map fun d => Sl.vl 0 d).length = (pick ix vs).length := by rw [List.length_map, p1]
    split
    · rename_i p fin e2
      split
      · rename_i hf
        intro Q q
        refine ⟨(pick ix ds).map fun d => .vl 0 d, σ.zip ev2 ++ (frE vs ds ++ τ), al, p2, ?_⟩
        rw [e2]
        intro v H' hl3 h5
        refine q v H' h1 (h5.perm (List.Perm.cons _ (perm_lc _ _ _))|>.perm List.perm_middle.symm |>.sub (sub_app (List.Sublist.cons_cons _ ?_))) trivial
        exact (List.sublist_append_right _ _).trans (List.sublist_append_right _ _)
      · trivial
    · rename_i n d fin e2
      split
      · rename_i hf
        intro ho hx Q
        refine ⟨(pick ix ds).map fun d => .vl 0 d, σ.zip ev2 ++ (frE vs ds ++ τ), al, p2, ?_⟩
        rw [e2]
        refine ⟨ho, fun dd v H' hl3 h5 hd => ?_⟩
        rw [hE ho]
        exact hx dd v H' h1 (h5.sub (List.Sublist.cons_cons _ ((sub_app (List.sublist_append_right _ _)).trans (List.sublist_append_right _ _)))) hd
      · trivial
    · trivial
  · trivial
end
section
variable {X : Cx} {xm : XM} {P O : List Nat} {k : Nat} {f : Addr} {fd : FuncData} {ps : List Str} {x : Str} {p pos p2 apos cpos pos' : Pos} {a e o tg iter elt : Expr} {es : List Expr} {fa fb fo : Ev → R T} {fr fk : Ev → R (List T)} {ft : Ev → R Bool} {fi : Ev → R (List D)} {b : D → Ev → Option Ev} {g g1 g2 : Ev → R Out} {den : FN}
theorem px_bm {ty : String} {id : String} {name : Str} {r : V → List V → Hp → VK → Prop} {g : D → List D → Option (Nat × D)} (pa : PlainAttrs ty) (slot : Slot ty name id) (hty : typeOf (.builtin id) = pure (.type "method_descriptor")) (hm : MtR X id r ∧ OpM X.K r g) (ho : PX X xm o fo) (ha : PXa X xm (e :: es) fr)
    (hbase : attributeBase o name X.env (eval o X.env) = eval o X.env := by rfl)
    (hfew : ((backTo cpos (starEach (e :: es) X.env)).all (fun x => !x.1) && (backToKw cpos (keywordEach [] X.env)).all (fun x => x.1.isSome)
      && decide ((e :: es).length + ([] : List Keyword).length + (if ([] : List Keyword).isEmpty then 0 else 1) < 30)) = true := by rfl)
    (hline : (apos.endLine == cpos.line) = true := by rfl) (hs : starEach (e :: es) X.env = (false, eval e X.env) :: starEach es X.env := by rfl) (hplain : (backTo cpos (starEach es X.env)).any (·.1) = false := by rfl) :
    PX X xm (.Call (.Attribute o name apos) (e :: es) [] cpos) (dBM ty g fo fr) := PX.of (pe_bm pa slot hty hm.1 ho ha hbase hfew hline hs hplain) (we_bm hm.2 (we_can _) (wa_can _))
theorem px_bm0 {ty : String} {id : String} {name : Str} {r : V → List V → Hp → VK → Prop} {g : D → List D → Option (Nat × D)} (pa : PlainAttrs ty) (slot : Slot ty name id) (hty : typeOf (.builtin id) = pure (.type "method_descriptor")) (hm : MtR X id r ∧ OpM X.K r g) (ho : PX X xm o fo)
    (hbase : attributeBase o name X.env (eval o X.env) = eval o X.env := by rfl) (hline : (apos.endLine == cpos.line) = true := by rfl) :
    PX X xm (.Call (.Attribute o name apos) [] [] cpos) (dBM ty g fo dNil) := PX.of (pe_bm0 pa slot hty hm.1 ho hbase hline) (we_bm0 hm.2 (we_can _))
theorem px_pop {i : Nat} (hN : X.N[i]? = some x := by rfl) (hv : Vis X.env.scope x := by first | exact Or.inl rfl | exact Or.inr (Or.inl rfl) | exact Or.inr (Or.inr rfl)) (hd : (x == ("__debug__" : Str)) = false := by decide)
    (hcd : (x == ("__classdict__" : Str)) = false := by decide) (hbase : attributeBase (.Name x p) "pop" X.env (eval (.Name x p) X.env) = eval (.Name x p) X.env := by rfl) (hline : (apos.endLine == cpos.line) = true := by rfl) :
    PX X xm (.Call (.Attribute (.Name x p) "pop" apos) [] [] cpos) (dPop i) :=
  PX.of (pe_bm0 PySem.F.plainAttrs_list PySem.F.slot_list_pop PySem.F.type_list_pop mt_pop (pe_var hN hv hd hcd) hbase hline) we_pop
/-- a def of the text, nothing let out -/
theorem px_call {bs : List Bool} (F : FnOk X.prog X.w X.K X.mg X.base CX0 k f fd ps (spD X.K XM.off den)) (hr : Room k X.A) (hg : Gl X x) (hm : X.mg x = some (.ref f)) (hk : PySem.W.keepIn X.K (.ref f) = true) (hb : Binds X.K fd ps [])
    (ha : PXa X XM.off (e :: es) fr) (hdb : (x == ("__debug__" : Str)) = false := by decide) (he : starEach (e :: es) X.env = (false, eval e X.env) :: starEach es X.env := by rfl) (hpl : (backTo pos (starEach es X.env)).any (·.1) = false := by rfl) :
    PX X XM.off (.Call (.Name x p) (e :: es) [] pos) (dCall den bs fr) :=
  PX.of (pe_call F hr hg hm hk hb .nil pass0 ha hdb he hpl) (we_call (wa_can _) (fun _ => E0) (fun h => h.elim) fun σ H Q q => by
    show tA X.K XM.off fr σ H fun vs H1 => spD X.K XM.off den (vs ++ []) H1 Q E0
    have : (fun (vs : List V) (H1 : Hp) => spD X.K XM.off den (vs ++ []) H1 Q E0) = fun vs H1 => spD X.K XM.off den vs H1 Q E0 := by
      funext vs H1; rw [List.append_nil]
    rw [this]
    exact q)
/-- how keywords come to the parameters -/
structure KBx (K : PySem.W.Frag) (fd : FuncData) (ps : List Str) (n : Nat) (ks : List Str) (ix : List Nat) : Prop where
  to : ∀ us ws : List Value, us.length = n → ws.length = ks.length → bindArgs fd ⟨us, ks.zip ws⟩ = pure (ps.zip (pick ix (us ++ ws)))
theorem pe_callX {n : Nat} {ks : List Str} {ix : List Nat} {sp : Sp} {E : XK} {CX : CXT} {kws : List Keyword} {t tk : TA} (F : FnOk X.prog X.w X.K X.mg X.base CX k f fd ps sp) (hr : Room k X.A) (hg : Gl X x) (hm : X.mg x = some (.ref f)) (hk : PySem.W.keepIn X.K (.ref f) = true) (hb : KBx X.K fd ps n ks ix) (hx : Passes CX X E)
    (ha : PA X (e :: es) t) (hkw : PK X kws tk) (hall : (backToKw pos (keywordEach kws X.env)).all (·.1.isSome) = true := by rfl) (hks : (backToKw pos (keywordEach kws X.env)).filterMap (·.1) = ks := by rfl)
    (hdb : (x == ("__debug__" : Str)) = false := by decide) (he : starEach (e :: es) X.env = (false, eval e X.env) :: starEach es X.env := by rfl)
    (hpl : ((backTo pos (starEach (e :: es) X.env)).any (·.1) || (backToKw pos (keywordEach kws X.env)).any (·.1.isNone)) = false := by rfl) :
    PE X (.Call (.Name x p) (e :: es) kws pos) (fun σ H Q => t σ H fun vs H1 => tk σ H1 fun zs H2 => vs.length = n ∧ zs.length = ks.length ∧ sp (pick ix (vs ++ zs)) H2 Q E) :=
  pe_callN F hr hg hm hk (n := n) (ks := ks) (g := fun us ws => pick ix (us ++ ws)) (gV := fun vs zs => pick ix (vs ++ zs)) ⟨fun s us ws _ l1 l2 => .of_eq (hb.to us ws l1 l2), fun r1 r2 => vals_pick (r1.append r2) ix⟩ hx ha hkw hall hks hdb he hpl
theorem pe_callX0 {ks : List Str} {ix : List Nat} {sp : Sp} {E : XK} {CX : CXT} {kws : List Keyword} {tk : TA} (F : FnOk X.prog X.w X.K X.mg X.base CX k f fd ps sp) (hr : Room k X.A) (hg : Gl X x) (hm : X.mg x = some (.ref f)) (hk : PySem.W.keepIn X.K (.ref f) = true) (hb : KBx X.K fd ps 0 ks ix) (hx : Passes CX X E)
    (hkw : PK X kws tk) (hall : (backToKw pos (keywordEach kws X.env)).all (·.1.isSome) = true := by rfl) (hks : (backToKw pos (keywordEach kws X.env)).filterMap (·.1) = ks := by rfl) (hdb : (x == ("__debug__" : Str)) = false := by decide)
    (hpl : ((backTo pos (starEach [] X.env)).any (·.1) || (backToKw pos (keywordEach kws X.env)).any (·.1.isNone)) = false := by rfl) :
    PE X (.Call (.Name x p) [] kws pos) (fun σ H Q => tk σ H fun zs H2 => zs.length = ks.length ∧ sp (pick ix zs) H2 Q E) := by
  refine ⟨fun pins s σ H Q I h => ?_⟩
  refine wpAny_Call_Name_kw (ld_glob I hg hm ?_ hdb)
  refine PySem.W.callWith_KW0 (h₀ := X.base) I.ok.mod.kin hk hall ?_ hpl
  refine thn (hkw.run pos pins s σ H _ I h) fun ws s2 ⟨zs, H2, I2, rz, l2, q2⟩ => ⟨I2.kIn, ?_⟩
  rw [hks]
  exact run_fnN (n := 0) (g := fun us ws => pick ix (us ++ ws)) (gV := fun vs zs => pick ix (vs ++ zs)) F hr ⟨fun s us ws _ l1 l2 => .of_eq (hb.to us ws l1 l2), fun r1 r2 => vals_pick (r1.append r2) ix⟩ hx I2 (us := []) (vs := []) .nil rz rfl l2 q2
theorem px_callX {n : Nat} {ks : List Str} {ix : List Nat} {kws : List Keyword} (F : FnOk X.prog X.w X.K X.mg X.base CX0 k f fd ps (spD X.K XM.off den)) (hr : Room k X.A) (hg : Gl X x) (hm : X.mg x = some (.ref f)) (hk : PySem.W.keepIn X.K (.ref f) = true) (hb : KBx X.K fd ps n ks ix)
    (ha : PXa X XM.off (e :: es) fr) (hkw : PXk X XM.off kws fk) (hall : (backToKw pos (keywordEach kws X.env)).all (·.1.isSome) = true := by rfl) (hks : (backToKw pos (keywordEach kws X.env)).filterMap (·.1) = ks := by rfl)
    (hdb : (x == ("__debug__" : Str)) = false := by decide) (he : starEach (e :: es) X.env = (false, eval e X.env) :: starEach es X.env := by rfl)
    (hpl : ((backTo pos (starEach (e :: es) X.env)).any (·.1) || (backToKw pos (keywordEach kws X.env)).any (·.1.isNone)) = false := by rfl) :
    PX X XM.off (.Call (.Name x p) (e :: es) kws pos) (dCallK den ix (dAppA n ks.length fr fk)) :=
  PX.of (pe_callX F hr hg hm hk hb pass0 ha hkw hall hks hdb he hpl) (we_callK (wa_app (wa_can _) (wa_can _)) (fun _ => E0) (fun h => h.elim) fun σ H Q q => q)
theorem px_callX0 {ks : List Str} {ix : List Nat} {kws : List Keyword} (F : FnOk X.prog X.w X.K X.mg X.base CX0 k f fd ps (spD X.K XM.off den)) (hr : Room k X.A) (hg : Gl X x) (hm : X.mg x = some (.ref f)) (hk : PySem.W.keepIn X.K (.ref f) = true) (hb : KBx X.K fd ps 0 ks ix)
    (hkw : PXk X XM.off kws fk) (hall : (backToKw pos (keywordEach kws X.env)).all (·.1.isSome) = true := by rfl) (hks : (backToKw pos (keywordEach kws X.env)).filterMap (·.1) = ks := by rfl) (hdb : (x == ("__debug__" : Str)) = false := by decide)
    (hpl : ((backTo pos (starEach [] X.env)).any (·.1) || (backToKw pos (keywordEach kws X.env)).any (·.1.isNone)) = false := by rfl) :
    PX X XM.off (.Call (.Name x p) [] kws pos) (dCallK den ix (dAppA 0 ks.length dNil fk)) :=
  PX.of (pe_callX0 F hr hg hm hk hb pass0 hkw hall hks hdb hpl) (we_callK (wa_app wa_nil (wa_can _)) (fun _ => E0) (fun h => h.elim) fun σ H Q q => by
    have q : tA X.K XM.off fk σ H fun zs H2 => ([] : List V).length = 0 ∧ zs.length = ks.length ∧ spD X.K XM.off den (pick ix ([] ++ zs)) H2 Q E0 := q
    simpa using q)
theorem pxk_nil : PXk X xm [] dNil := PXk.of pk_nil wa_nil
theorem pxk_cons {kws : List Keyword} {nm : Option Str} {kpos : Pos} (ha : PX X xm a fa) (hr : PXk X xm kws fk) : PXk X xm (⟨nm, a, kpos⟩ :: kws) (dCons fa fk) := PXk.of (pk_cons ha hr) (wa_cons (we_can _) (wa_can _))
end
end DN

set_option Elab.async false
set_option linter.all false
set_option maxRecDepth 100000
set_option maxHeartbeats 1000000
namespace DN
open PySem PySem.Spec PyProof.Rows L2

section
variable {X : Cx} {xm : XM} {P O O' : List Nat} {x y : Str} {p pos p2 apos cpos pos' : Pos} {a e o tg iter elt : Expr} {es : List Expr} {fa fb fo : Ev → R T} {fr fk : Ev → R (List T)} {ft : Ev → R Bool} {fi : Ev → R (List D)} {b : D → Ev → Option Ev} {bs : List D → Ev → Option Ev} {g g1 g2 : Ev → R Out} {st : Stmt} {sts : List Stmt}
/-! ### walked things, targets -/
theorem pxi_seq (h : PX X xm e fa) : PXi X xm tg e (dIt fa) := PXi.of (t := iSeq X.K _) (pi_or (pi_list h) (pi_or (pi_tup h) (pi_str h))) (wi_seq (we_can _))
theorem pxi_rng1 (hg : Gl X "range") (hm : X.mg "range" = none) (ha : PXa X xm [a] fr) (hs : starEach [a] X.env = [(false, eval a X.env)] := by rfl) : PXi X xm tg (.Call (.Name "range" p) [a] [] pos) (dRng1 fr) := PXi.of (pi_range1 hg hm ha hs) (wi_rng1 (wa_can _))
theorem pxi_rng2 {a b : Expr} (hg : Gl X "range") (hm : X.mg "range" = none) (ha : PXa X xm [a, b] fr) (hs : starEach [a, b] X.env = [(false, eval a X.env), (false, eval b X.env)] := by rfl) (hs2 : starEach [b] X.env = [(false, eval b X.env)] := by rfl) :
    PXi X xm tg (.Call (.Name "range" p) [a, b] [] pos) (dRng2 fr) := PXi.of (pi_range2 hg hm ha hs hs2) (wi_rng2 (wa_can _))
theorem pxg_name {i : Nat} (hN : X.N.Nodup) (hi : X.N[i]? = some x) (hx : Loc X.env.scope x) (hf : X.fn x = true ∨ X.env.scope.names.lookup x = some .local := by first | exact .inl rfl | exact .inr rfl | assumption) : PXg X [i] (.Name x pos) (bName i) := PXg.of (pg_name hN hi hx hf) wg_name
theorem pxgs_nil : PXgs X [] [] bNil := PXgs.of pgs_nil wgs_nil
theorem pxgs_cons (h1 : PXg X O e b) (h2 : PXgs X O' es bs) (hs : (assignEach (e :: es) X.env).map (·.2) = assign e X.env :: (assignEach es X.env).map (·.2) := by rfl) : PXgs X (O ++ O') (e :: es) (bCons b bs) := PXgs.of (pgs_cons h1 h2 hs) (wgs_cons (wg_can _) (wgs_can _))
theorem pxg_tup {k n : Nat} (hc : X.calm = true) (h : PXgs X O es bs) (hn : (assignEach es X.env).length = n := by rfl) (hst : (assignEach es X.env).findIdx? (·.1) = none := by rfl) : PXg X O (.Tuple es k pos) (bTup n bs) := PXg.of (pg_tup hc h hn hst) (wg_tup (wgs_can _))
/-! ### statements -/
theorem pxb_nil : PXb X xm P [] dPass := PXb.of pss_nil ws_pass
theorem pxb_cons (h1 : PXs X xm P st g1) (h2 : PXb X xm P sts g2) : PXb X xm P (st :: sts) (dSeq g1 g2) := PXb.of (pss_cons h1 h2) (ws_seq (ws_can _) (ws_can _))
theorem pxb_one (h1 : PXs X xm P st g1) : PXb X xm P [st] g1 := PXb.of (pss_one h1) (ws_can _)
theorem pxb_bad : PXb X xm P sts dBad := PXb.of pss_never ws_bad
theorem pxs_bad : PXs X xm P st dBad := PXs.of ps_never ws_bad
theorem pxs_pass : PXs X xm P (.Pass pos) dPass := PXs.of ps_pass ws_pass
theorem pxs_brk : PXs X xm P (.Break pos) dBrk := PXs.of ps_break ws_brk
theorem pxs_cnt : PXs X xm P (.Continue pos) dCnt := PXs.of ps_continue ws_cnt
theorem pxs_expr (h : PX X xm e fa) (hs : swapsWith e none pos.line X.env = pure false := by rfl) : PXs X xm P (.Expr e pos) (dDrop fa) := PXs.of (ps_expr h hs) (ws_drop (we_can _))
theorem pxs_ret (h : PX X xm e fa) : PXs X xm P (.Return (some e) pos) (dRet fa) := PXs.of (ps_ret h) (ws_ret (we_can _))
theorem pxs_retN : PXs X xm P (.Return none pos) dRetN := PXs.of ps_retN ws_retN
theorem pxs_if {c : Expr} {a b : List Stmt} (hc : PXt X xm c ft) (ha : PXb X xm P a g1) (hb : PXb X xm P b g2) : PXs X xm P (.If c a b pos) (dIfS ft g1 g2) := PXs.of (ps_if hc ha hb) (ws_if (wt_can _) (ws_can _) (ws_can _))
theorem pxs_set {i : Nat} (hP : i ∉ P) (hN : X.N.Nodup) (hi : X.N[i]? = some x) (hx : Loc X.env.scope x) (he : PX X xm e fa) (hs : swapsWith e (some (.Name x pos')) pos.line X.env = pure false := by rfl) (hf : X.fn x = true ∨ X.env.scope.names.lookup x = some .local := by first | exact .inl rfl | exact .inr rfl | assumption) :
    PXs X xm P (.Assign [.Name x pos'] e pos) (dSet i fa) := PXs.of (ps_set hN hi hx he hs hf) (ws_set hP (we_can _))
theorem pxs_asg (ho : ∀ i ∈ P, i ∉ O) (he : PX X xm e fa) (hg : PXg X O tg b) (hs : swapsWithSole [tg] e pos.line X.env = pure false := by rfl) (hw : swappedStores [tg] e X.env = pure none := by rfl)
    (h1 : (assignEach [tg] X.env).map (·.2) = [assign tg X.env] := by rfl) : PXs X xm P (.Assign [tg] e pos) (dAsg b fa) := PXs.of (ps_asg he hg hs hw h1) (ws_asg ho (we_can _) (wg_can _))
theorem pxs_par {i j : Nat} {a b : Expr} {px py pt : Pos} {kt k2 pt2} (hPi : i ∉ P) (hPj : j ∉ P) (hc : X.calm = true) (hN : X.N.Nodup) (hi : X.N[i]? = some x) (hj : X.N[j]? = some y) (hij : i ≠ j)
    (hx : X.env.scope.names.lookup x = some .local) (hy : X.env.scope.names.lookup y = some .local) (ha : PXa X xm [a, b] fr)
    (hw : swappedStores [.Tuple [.Name x px, .Name y py] kt pt] (.Tuple [a, b] k2 pt2) X.env = pure (some [x, y]) := by rfl)
    (hs : swapsWithSole [.Tuple [.Name x px, .Name y py] kt pt] (.Tuple [a, b] k2 pt2) pos.line X.env = pure false := by rfl) :
    PXs X xm P (.Assign [.Tuple [.Name x px, .Name y py] kt pt] (.Tuple [a, b] k2 pt2) pos) (dPar i j fr) := PXs.of (ps_par hc hN hi hj hij hx hy ha hw hs) (ws_par hPi hPj (wa_can _))
theorem pxs_aug {i : Nat} {op : Operator} {r : R2} {f : D → D → Option (Nat × D)} (hP : i ∉ P) (ho : PIp X op r ∧ Op2 X.K r f) (hN : X.N.Nodup) (hi : X.N[i]? = some x) (hx : Loc X.env.scope x) (he : PX X xm e fa) (hf : X.fn x = true ∨ X.env.scope.names.lookup x = some .local := by first | exact .inl rfl | exact .inr rfl | assumption) :
    PXs X xm P (.AugAssign (.Name x pos') op e pos) (dAug i f fa) := PXs.of (ps_aug hN hi hx he ho.1 hf) (ws_aug hP ho.2 (we_can _))
theorem pxs_setI {i : Nat} {ie : Expr} (hN : X.N[i]? = some x := by rfl) (hv : Vis X.env.scope x := by first | exact Or.inl rfl | exact Or.inr (Or.inl rfl) | exact Or.inr (Or.inr rfl)) (hi : PX X xm ie fb) (he : PX X xm e fa) (hd : (x == ("__debug__" : Str)) = false := by decide)
    (hcd : (x == ("__classdict__" : Str)) = false := by decide)
    (hs : swapsWithSole [.Subscript (.Name x p) ie p2] e pos.line X.env = pure false := by rfl) (hw : swappedStores [.Subscript (.Name x p) ie p2] e X.env = pure none := by rfl)
    (h1 : (assignEach [.Subscript (.Name x p) ie p2] X.env).map (·.2) = [assign (.Subscript (.Name x p) ie p2) X.env] := by rfl)
    (ha : ∀ v, assign (.Subscript (.Name x p) ie p2) X.env v = (do
      let ov ← holding [v] (eval (.Name x p) X.env)
      let iv ← holding [v, ov] (eval ie X.env)
      standAt p2
      holding [v, ov, iv] (setItem ov iv v)
      release [v, ov, iv] []) := by intro _; rfl) :
    PXs X xm P (.Assign [.Subscript (.Name x p) ie p2] e pos) (dSetI i fb fa) := PXs.of (ps_asg he (pg_sub (pe_var hN hv hd hcd) hi set_list ha) hs hw h1) (ws_setI (we_can _) (we_can _))
theorem pget_list : PGet X (rIxL X.K) := by
  intro pins s σ H x y v u Q I rx ry h
  obtain ⟨p, xs, i, z, rfl, rfl, hq, he, q⟩ := h
  cases rx
  obtain ⟨t, rfl⟩ := ry
  obtain ⟨its, r, pl, hz⟩ := I.list hq
  obtain ⟨j, h1, h2, h3, h4, h5⟩ := atI_get he
  obtain ⟨w, ew, rw'⟩ := r.get h2
  have hl := r.length
  have hn := line63
  have fin : EP X pins σ Q w s := ⟨z, H, I, rw', q⟩
  by_cases h0 : 0 ≤ i
  · have hj : i.toNat = j := by
      rw [seqIndex_of h0 h5] at h1
      exact Option.some.inj h1
    exact wpAny_getItem_list pl.isList h0 (by omega) (by rw [hj]; simpa using ew) fin
  · have hj : (i + (its.toArray.size : Int)).toNat = j := by
      rw [seqIndex_neg (by omega) h4] at h1
      rw [List.size_toArray, ← hl]
      exact Option.some.inj h1
    exact wpAny_getItem_list_neg pl.isList (by omega) (by rw [List.size_toArray] <;> omega) (by omega) (by rw [hj]; simpa using ew) fin
theorem pxs_augI {i : Nat} {ie : Expr} {op : Operator} {r : R2} {f : D → D → Option (Nat × D)} (ho : PIp X op r ∧ Op2 X.K r f) (hi : PX X xm ie fb) (he : PX X xm e fa) (hN : X.N[i]? = some x := by rfl) (hv : Vis X.env.scope x := by first | exact Or.inl rfl | exact Or.inr (Or.inl rfl) | exact Or.inr (Or.inr rfl)) (hd : (x == ("__debug__" : Str)) = false := by decide)
    (hcd : (x == ("__classdict__" : Str)) = false := by decide)
    (ha : ∀ ov iv new, augStore ie ov iv new = (do holding [new, ov, iv] (setItem ov iv new); release [new, ov, iv] []; pure .next) := by intros; rfl) : PXs X xm P (.AugAssign (.Subscript (.Name x p) ie p2) op e pos) (dAugI i fb f fa) :=
  PXs.of (ps_augS (pe_var hN hv hd hcd) hi pget_list he ho.1 set_list ha) (ws_augI ho.2 (we_can _) (we_can _))
theorem pxs_app {i : Nat} (he : PX X xm e fa) (hN : X.N[i]? = some x := by rfl) (hv : Vis X.env.scope x := by first | exact Or.inl rfl | exact Or.inr (Or.inl rfl) | exact Or.inr (Or.inr rfl)) (hd : (x == ("__debug__" : Str)) = false := by decide)
    (hcd : (x == ("__classdict__" : Str)) = false := by decide) (hbase : attributeBase (.Name x p) "append" X.env (eval (.Name x p) X.env) = eval (.Name x p) X.env := by rfl)
    (hfew : ((backTo cpos (starEach [e] X.env)).all (fun x => !x.1) && (backToKw cpos (keywordEach [] X.env)).all (fun x => x.1.isSome)
      && decide ([e].length + ([] : List Keyword).length + (if ([] : List Keyword).isEmpty then 0 else 1) < 30)) = true := by rfl)
    (hline : (apos.endLine == cpos.line) = true := by rfl) (hs : starEach [e] X.env = (false, eval e X.env) :: starEach [] X.env := by rfl) (hplain : (backTo cpos (starEach [] X.env)).any (·.1) = false := by rfl)
    (hsw : swapsWith (.Call (.Attribute (.Name x p) "append" apos) [e] [] cpos) none pos.line X.env = pure false := by rfl) :
    PXs X xm P (.Expr (.Call (.Attribute (.Name x p) "append" apos) [e] [] cpos) pos) (dApp i fa) :=
  PXs.of (ps_expr (pe_bm PySem.F.plainAttrs_list PySem.F.slot_list_append PySem.F.type_list_append mt_append (pe_var hN hv hd hcd) (pa_cons he pa_nil hs) hbase hfew hline hs hplain) hsw) (ws_app (we_can _))
theorem pxs_for {body : List Stmt} (hp : PassesOwn (model X.prog X.w) X.A X.env X.xe) (hc : X.calm = true) (ho : ∀ i ∈ P, i ∉ O) (hi : PXi X xm tg iter fi) (hg : PXg X O tg b) (hb : PXb X xm P body g)
    (hs : ∀ x, foldedSetIterable iter X.env x = pure x := by intro _; rfl) : PXs X xm P (.For tg iter body [] pos) (dFor fi b g) := PXs.of (ps_for hp hc hi hg hb hs) (ws_for ho (wi_can _) (wg_can _) (ws_can _))
theorem pxs_while {c : Expr} {body : List Stmt} (n : Nat) (hp : PassesOwn (model X.prog X.w) X.A X.env X.xe) (hc : PXt X xm c ft) (hb : PXb X xm P body g) : PXs X xm P (.While c body [] pos) (dWh ft g n) := PXs.of (ps_while hp hc hb) (ws_while n (wt_can _) (ws_can _))
/-! ### comprehensions -/
theorem pxts_nil : PXts X xm [] dYes := PXts.of pts_nil wt_yes
theorem pxts_one (h : PXt X xm e ft) : PXts X xm [e] ft := PXts.of (pts_one h) (wt_can _)
theorem px_lc {ifs : List Expr} {scope : Scope} {own : List (Str × Nat)} (hc : X.calm = true) (hN : X.N.Nodup) (ho : ∀ i ∈ O, i ∈ own.map (·.2)) (hi : PXi X xm tg iter fi) (ok : BlkOk X.N X.env.scope scope own)
    (hg : ∀ (s : Shared) (H : Hp) (C : Addr) (cl : List (Str × Addr)) (fp : List Addr), PXg (X.blk s H scope (compEnvC scope cl C X.env) fp) O tg b) (ht : ∀ (s : Shared) (H : Hp) (C : Addr) (cl : List (Str × Addr)) (fp : List Addr), PXts (X.blk s H scope (compEnvC scope cl C X.env) fp) XM.off ifs ft)
    (he : ∀ (s : Shared) (H : Hp) (C : Addr) (cl : List (Str × Addr)) (fp : List Addr), PX (X.blk s H scope (compEnvC scope cl C X.env) fp) XM.off elt fa) (hs : ∀ x, foldedSetIterable iter X.env x = pure x := by intro _; rfl) :
    PX X xm (.ListComp elt [⟨tg, iter, ifs, 0⟩] scope pos) (dLc fi b ft fa (own.map (·.2))) := PX.of (pe_lc (wi := tI X.K xm fi) (g := tG X.K O b) (tt := tT X.K XM.off ft) (te := tE X.K XM.off fa) hc hN hi ok hg ht he hs) (we_lc ho (wi_can _) (wg_can _) (wt_can _) (we_can _))
theorem pxs_setLc {i : Nat} {py spos : Pos} {ifs : List Expr} {scope : Scope} {own : List (Str × Nat)} (hP : i ∉ P) (hc : X.calm = true) (hN : X.N.Nodup) (hy : X.N[i]? = some y) (hyl : X.env.scope.names.lookup y = some .local)
    (hsw : swapsWith (.ListComp elt [⟨tg, iter, ifs, 0⟩] scope pos) (some (.Name y py)) spos.line X.env = pure true) (ho : ∀ i ∈ O, i ∈ own.map (·.2)) (hi : PXi X xm tg iter fi) (ok : BlkOk X.N X.env.scope scope own)
    (hg : ∀ (s : Shared) (H : Hp) (C : Addr) (cl : List (Str × Addr)) (fp : List Addr), PXg (X.blk s H scope (compEnvC scope cl C X.env) fp) O tg b) (ht : ∀ (s : Shared) (H : Hp) (C : Addr) (cl : List (Str × Addr)) (fp : List Addr), PXts (X.blk s H scope (compEnvC scope cl C X.env) fp) XM.off ifs ft)
    (he : ∀ (s : Shared) (H : Hp) (C : Addr) (cl : List (Str × Addr)) (fp : List Addr), PX (X.blk s H scope (compEnvC scope cl C X.env) fp) XM.off elt fa) (hs : ∀ x, foldedSetIterable iter X.env x = pure x := by intro _; rfl) :
    PXs X xm P (.Assign [.Name y py] (.ListComp elt [⟨tg, iter, ifs, 0⟩] scope pos) spos) (dSet i (dLc fi b ft fa (own.map (·.2)))) := PXs.of (ps_setLc (wi := tI X.K xm fi) (g := tG X.K O b) (tt := tT X.K XM.off ft) (te := tE X.K XM.off fa) hc hN hy hyl hsw hi ok hg ht he hs) (ws_set hP (we_lc ho (wi_can _) (wg_can _) (wt_can _) (we_can _)))
end
end DN

set_option Elab.async false
set_option linter.all false
set_option maxRecDepth 100000
set_option maxHeartbeats 1000000
namespace DN
open PySem PySem.Spec PyProof.Rows L2

/-! ### helpers -/
abbrev LL : Nat := 16777216
theorem line_eq : (sizeLine : Nat) = LL := sizeLine_eq
section
variable {K : PySem.W.Frag} {F H : Hp} {x y : V}
theorem ef_lst {ds : List D} (h : EFv K F H x (.lst ds)) : ∃ a xs, x = .ref a ∧ H a = some (.lst xs) ∧ Rzs K F xs ds := h
theorem ef_fls {ds : List D} (hf : Le F H) (h : EFv K F H x (.fls ds)) : ∃ a xs, x = .ref a ∧ SqL K H a xs ∧ Rzs K F xs ds := by
  obtain ⟨a, xs, h1, h2, h3⟩ := h
  exact ⟨a, xs, h1, sqL_le hf h2, h3⟩
theorem ef_tup {ds : List D} (hf : Le F H) (h : EFv K F H x (.tup ds)) : ∃ a xs, x = .ref a ∧ SqT K H a xs ∧ Rzs K F xs ds := by
  obtain ⟨a, xs, h1, h2, h3⟩ := h
  exact ⟨a, xs, h1, sqT_le hf h2, h3⟩
theorem ef_seq {ds : List D} {d : D} (hf : Le F H) (hd : d = .lst ds ∨ d = .fls ds) (h : EFv K F H x d) : ∃ a xs, x = .ref a ∧ SqL K H a xs ∧ Rzs K F xs ds := by
  rcases hd with rfl | rfl
  · obtain ⟨a, xs, h1, h2, h3⟩ := ef_lst h
    exact ⟨a, xs, h1, SqL.of h2, h3⟩
  · exact ef_fls hf h
theorem OpN.one {r : List V → Hp → VK → Prop} {f : List D → Option (Nat × D)} (h1 : ∀ ds k d, f ds = some (k, d) → ∃ e, ds = [e]) (h : ∀ F H x e k d, Le F H → EFv K F H x e → f [e] = some (k, d) → ∀ Q : VK, (∀ v H', New K F H v H' k d → Q v H') → r [x] H Q) : OpN K r f := by
  intro F H xs ds k d hf he hd Q q
  obtain ⟨e, rfl⟩ := h1 ds k d hd
  cases xs with
  | nil => exact he.elim
  | cons x xs =>
    cases xs with
    | cons _ _ => exact he.2.elim
    | nil => exact h F H x e k d hf he.1 hd Q q
end

/-! ### arithmetic -/
def addD : D → D → Option (Nat × D)
  | .int i, .int j => some (0, .int (i + j))
  | .str s, .str t => if s.length + t.length ≤ LL then some (0, .str (s ++ t)) else none
  | .lst a, .lst b => if a.length + b.length ≤ LL then some (1, .lst (a ++ b)) else none
  | .tup a, .tup b => if a.length + b.length ≤ LL then some (0, .tup (a ++ b)) else none
  | _, _ => none
def subD : D → D → Option (Nat × D)
  | .int i, .int j => some (0, .int (i - j))
  | _, _ => none
def mulD : D → D → Option (Nat × D)
  | .int i, .int j => if (-18446744073709551616 < i ∧ i < 18446744073709551616) ∨ (-18446744073709551616 < j ∧ j < 18446744073709551616) then some (0, .int (i * j)) else none
  | .str s, .int n => if -9223372036854775808 ≤ n ∧ n < 9223372036854775808 ∧ s.length * n.toNat ≤ LL then some (0, .str (List.replicate n.toNat s).flatten) else none
  | .lst a, .int n => if -9223372036854775808 ≤ n ∧ n < 9223372036854775808 ∧ a.length * n.toNat ≤ LL then some (1, .lst (List.replicate n.toNat a).flatten) else none
  | _, _ => none
def fdivD : D → D → Option (Nat × D)
  | .int i, .int j => if j ≠ 0 ∧ j.natAbs < 1073741824 then some (0, .int (i.fdiv j)) else none
  | _, _ => none
def modD : D → D → Option (Nat × D)
  | .int i, .int j => if j ≠ 0 then some (0, .int (i.fmod j)) else none
  | _, _ => none
def powD : D → D → Option (Nat × D)
  | .int i, .int j => if 0 ≤ j ∧ j ≤ 1000000 ∧ i.natAbs < 18446744073709551616 then some (0, .int (i ^ j.toNat)) else none
  | _, _ => none
def negD : D → Option (Nat × D)
  | .int i => some (0, .int (-i))
  | _ => none
theorem oint {K : PySem.W.Frag} {C : Int → Int → Prop} {g : Int → Int → Int} {f : D → D → Option (Nat × D)} (h : ∀ d e k r, f d e = some (k, r) → ∃ i j, d = .int i ∧ e = .int j ∧ C i j ∧ k = 0 ∧ r = .int (g i j)) : Op2 K (rI C fun i j => .int (g i j)) f := by
  intro F H x y d1 d2 k d hf h1 h2 hd Q q
  obtain ⟨i, j, rfl, rfl, hc, rfl, rfl⟩ := h _ _ _ _ hd
  have h1 : x = .int i := h1
  have h2 : y = .int j := h2
  exact ⟨i, j, h1, h2, hc, q _ _ (.same rfl)⟩
section
variable {X : Cx}
theorem flat_rep (s : List Nat) : ∀ n : Nat, ((List.replicate n s.toArray).foldl (· ++ ·) #[]) = (List.replicate n s).flatten.toArray := by
  have key : ∀ (n : Nat) (acc : Array Nat), (List.replicate n s.toArray).foldl (· ++ ·) acc = acc ++ (List.replicate n s).flatten.toArray := by
    intro n
    induction n with
    | zero => intro acc; simp
    | succ n ih =>
      intro acc
      rw [List.replicate_succ, List.foldl_cons, ih, List.replicate_succ, List.flatten_cons]
      simp
  intro n
  rw [key]
  simp
/-- str * int -/
theorem op_rep_str : OpR X (binaryOp .Mult) (fun x y H Q => ∃ (s : List Nat) (n : Int), x = .str ⟨s.toArray⟩ ∧ y = .int n ∧ -9223372036854775808 ≤ n ∧ n < 9223372036854775808 ∧ s.length * n.toNat ≤ LL ∧ Q (.str ⟨(List.replicate n.toNat s).flatten.toArray⟩) H) := by
  intro pins s σ H x y v u Q I rx ry h
  obtain ⟨z, n, rfl, rfl, h0, h1, hz, q⟩ := h
  obtain ⟨t, rfl⟩ := rx
  obtain ⟨t', rfl⟩ := ry
  have e1 : decide (n < -(2 ^ 63 : Int)) = false := decide_eq_false (by omega)
  have e2 : decide (n ≥ 2 ^ 63) = false := decide_eq_false (by omega)
  have hlen : (⟨z.toArray⟩ : Str).length = z.length := by show z.toArray.size = z.length; exact List.size_toArray
  refine PySem.P.mul_str (by rw [e1, e2]; rfl) (fun hn hq => ?_) (fun hn hq => ?_) ?_
  · rw [hlen]
    have h3 : z.length * n.toNat ≤ LL := hz
    have h5 : (z.length : Int) * n ≤ 16777216 := by
      have e : (z.length : Int) * n = ((z.length * n.toNat : Nat) : Int) := by
        rw [Int.natCast_mul, Int.toNat_of_nonneg (by omega)]
      rw [e]
      exact Int.ofNat_le.mpr h3
    have h6 : (z.length : Int) ≤ (2 ^ 63 - 1) / n := (Int.le_ediv_iff_mul_le (by omega)).mpr (by omega)
    omega
  · rw [hlen]
    exact PyProof.Rows.short24 hz
  · have fin : ∀ (t2 : Tok) (k : Nat) (w' : Str), w' = ⟨(List.replicate n.toNat z).flatten.toArray⟩ → EP X pins σ Q (.str w' t2) { s with toks := k } := fun t2 k w' e => by
      subst e
      exact ⟨.str _, H, I.tok k, ⟨_, rfl⟩, q⟩
    by_cases hn : n < 1
    · rw [if_pos hn]
      have e0 : n.toNat = 0 := by omega
      refine ⟨by decide, fin _ _ _ ?_⟩
      rw [e0]
      rfl
    · rw [if_neg hn]
      by_cases hq : (n == 1 || (⟨z.toArray⟩ : Str).length == 0) = true
      · rw [if_pos hq]
        refine fin _ s.toks _ ?_
        rw [hlen] at hq
        rw [Bool.or_eq_true] at hq
        rcases hq with hq | hq
        · have : n = 1 := by simpa using hq
          subst this
          simp
        · have : z = [] := by simpa using hq
          subst this
          simp
      · rw [if_neg hq]
        refine ⟨?_, fin _ _ _ ?_⟩
        · show ((List.replicate n.toNat z.toArray).foldl (· ++ ·) #[]).size ≤ sizeLine
          rw [flat_rep, line_eq]
          have e : (List.replicate n.toNat z).flatten.length = z.length * n.toNat := by
            rw [List.length_flatten, List.map_replicate, List.sum_replicate_nat, Nat.mul_comm]
          rw [List.size_toArray, e]
          exact hz
        · rw [flat_rep]
theorem o_add : OpR X (binaryOp .Add) (fun x y H Q => rI0 (fun i j => .int (i + j)) x y H Q ∨ (fun x y H Q => ∃ i j, x = .str i ∧ y = .str j ∧ i.length + j.length ≤ sizeLine ∧ Q (.str (i ++ j)) H) x y H Q ∨ rCat x y H Q ∨ rCatA X.K x y H Q) ∧
    Op2 X.K (fun x y H Q => rI0 (fun i j => .int (i + j)) x y H Q ∨ (fun x y H Q => ∃ i j, x = .str i ∧ y = .str j ∧ i.length + j.length ≤ sizeLine ∧ Q (.str (i ++ j)) H) x y H Q ∨ rCat x y H Q ∨ rCatA X.K x y H Q) addD := by
  refine ⟨op_add.or (op_add_str.or (op_cat.or op_catA)), ?_⟩
  intro F H x y d1 d2 k d hf h1 h2 hd Q q
  unfold addD at hd
  split at hd
  · cases hd
    exact .inl ⟨_, _, h1, h2, q _ _ (.same rfl)⟩
  · split at hd
    · rename_i s t hz
      cases hd
      refine .inr (.inl ⟨_, _, h1, h2, ?_, q _ _ (.same ?_)⟩)
      · rw [line_eq]; simpa [Str.length] using hz
      · show V.str _ = V.str _
        congr 1
        show (⟨s.toArray ++ t.toArray⟩ : Str) = _
        simp
    · cases hd
  · split at hd
    · rename_i s t hz
      cases hd
      obtain ⟨a, xs, rfl, g1, g2⟩ := ef_lst h1
      obtain ⟨b, ys, rfl, g3, g4⟩ := ef_lst h2
      refine .inr (.inr (.inl ⟨a, b, xs, ys, rfl, rfl, g1, g3, ?_, fun p hp => q _ _ (.lst hp (g2.append g4))⟩))
      rw [g2.len, g4.len, line_eq]; exact hz
    · cases hd
  · split at hd
    · rename_i s t hz
      cases hd
      obtain ⟨a, xs, rfl, g1, g2⟩ := id h1
      obtain ⟨b, ys, rfl, g3, g4⟩ := id h2
      refine .inr (.inr (.inr ⟨a, b, xs, ys, rfl, rfl, sqT_le hf g1, sqT_le hf g3, ?_, fun e => q _ _ (.same ?_), fun e e' => q _ _ (.same ?_), fun _ _ p hp => q _ _ (.tup hp (g2.append g4))⟩))
      · rw [g2.len, g4.len, line_eq]; exact hz
      · have := g2.len
        rw [e] at this
        have : s = [] := by cases s with | nil => rfl | cons _ _ => simp at this
        subst this
        exact ⟨b, ys, rfl, g3, g4⟩
      · have := g4.len
        rw [e'] at this
        have : t = [] := by cases t with | nil => rfl | cons _ _ => simp at this
        subst this
        rw [List.append_nil]
        exact ⟨a, xs, rfl, g1, g2⟩
    · cases hd
  · cases hd
theorem o_sub : OpR X (binaryOp .Sub) (rI0 fun i j => .int (i - j)) ∧ Op2 X.K (rI0 fun i j => .int (i - j)) subD := by
  refine ⟨op_sub, ?_⟩
  intro F H x y d1 d2 k d hf h1 h2 hd Q q
  unfold subD at hd
  split at hd
  · cases hd
    exact ⟨_, _, h1, h2, q _ _ (.same rfl)⟩
  · cases hd
theorem flatRep {K : PySem.W.Frag} {F : Hp} {xs : List V} {ds : List D} (h : Rzs K F xs ds) : ∀ n : Nat, Rzs K F (List.replicate n xs).flatten (List.replicate n ds).flatten
  | 0 => rfl
  | n + 1 => by
    rw [List.replicate_succ, List.replicate_succ, List.flatten_cons, List.flatten_cons]
    exact h.append (flatRep h n)
abbrev rMulD : R2 := fun x y H Q => rI CMul (fun i j => .int (i * j)) x y H Q ∨ (fun x y H Q => ∃ (s : List Nat) (n : Int), x = .str ⟨s.toArray⟩ ∧ y = .int n ∧ -9223372036854775808 ≤ n ∧ n < 9223372036854775808 ∧ s.length * n.toNat ≤ LL ∧ Q (.str ⟨(List.replicate n.toNat s).flatten.toArray⟩) H) x y H Q ∨ rRep x y H Q
theorem o_mul : OpR X (binaryOp .Mult) rMulD ∧ Op2 X.K rMulD mulD := by
  refine ⟨op_mul.or (op_rep_str.or op_rep), ?_⟩
  intro F H x y d1 d2 k d hf h1 h2 hd Q q
  unfold mulD at hd
  split at hd
  · split at hd
    · rename_i hc
      cases hd
      exact .inl ⟨_, _, h1, h2, by rcases hc with hc | hc; exact .inl ⟨by omega, by omega⟩; exact .inr ⟨by omega, by omega⟩, q _ _ (.same rfl)⟩
    · cases hd
  · split at hd
    · rename_i hc
      cases hd
      exact .inr (.inl ⟨_, _, h1, h2, hc.1, hc.2.1, hc.2.2, q _ _ (.same rfl)⟩)
    · cases hd
  · split at hd
    · rename_i hc
      cases hd
      obtain ⟨a, xs, rfl, g1, g2⟩ := ef_lst h1
      exact .inr (.inr ⟨a, _, xs, rfl, h2, g1, by have := hc.1; omega, by have := hc.2.1; omega, by rw [g2.len, line_eq]; exact hc.2.2, fun p hp => q _ _ (.lst hp (flatRep g2 _))⟩)
    · cases hd
  · cases hd
theorem o_neg : UnR X (unaryOp .USub) (rU fun i => .int (-i)) ∧ Op1 X.K (rU fun i => .int (-i)) negD := by
  refine ⟨un_neg, ?_⟩
  intro F H x d1 k d hf h1 hd Q q
  unfold negD at hd
  split at hd
  · cases hd
    exact ⟨_, h1, q _ _ (.same rfl)⟩
  · cases hd
theorem o_fdiv : OpR X (binaryOp .FloorDiv) (rI CDivN fun i j => .int (i.fdiv j)) ∧ Op2 X.K (rI CDivN fun i j => .int (i.fdiv j)) fdivD := by
  refine ⟨op_fdivN, oint fun d e k r h => ?_⟩
  unfold fdivD at h
  split at h
  · split at h
    · rename_i hc; cases h; exact ⟨_, _, rfl, rfl, hc, rfl, rfl⟩
    · cases h
  · cases h
theorem o_mod : OpR X (binaryOp .Mod) (rI (fun _ j => j ≠ 0) fun i j => .int (i.fmod j)) ∧ Op2 X.K (rI (fun _ j => j ≠ 0) fun i j => .int (i.fmod j)) modD := by
  refine ⟨op_modN, oint fun d e k r h => ?_⟩
  unfold modD at h
  split at h
  · split at h
    · rename_i hc; cases h; exact ⟨_, _, rfl, rfl, hc, rfl, rfl⟩
    · cases h
  · cases h
theorem o_pow : OpR X (binaryOp .Pow) (rI CPow fun i j => .int (i ^ j.toNat)) ∧ Op2 X.K (rI CPow fun i j => .int (i ^ j.toNat)) powD := by
  refine ⟨op_pow, oint fun d e k r h => ?_⟩
  unfold powD at h
  split at h
  · split at h
    · rename_i hc; cases h; exact ⟨_, _, rfl, rfl, ⟨hc.1, hc.2.1, by have := hc.2.2; omega⟩, rfl, rfl⟩
    · cases h
  · cases h
end
/-! ### == and the order, of data -/
mutual
def pd : D → PyData
  | .non => .none | .bl b => .bool b | .int i => .int i | .str s => .str ⟨s.toArray⟩
  | .tup ds => .tuple (pds ds) | .lst ds => .list (pds ds) | .fls ds => .list (pds ds) | .dic _ _ => .none
def pds : List D → List PyData
  | [] => []
  | d :: ds => pd d :: pds ds
end
mutual
/-- no dict in it, signs in range -/
def okE : D → Bool
  | .non => true | .bl _ => true | .int _ => true | .str s => s.all (· < 1114112)
  | .tup ds => okEs ds | .lst ds => okEs ds | .fls ds => okEs ds | .dic _ _ => false
def okEs : List D → Bool
  | [] => true
  | d :: ds => okE d && okEs ds
end
mutual
def dep : D → Nat
  | .tup ds => deps ds + 1 | .lst ds => deps ds + 1 | .fls ds => deps ds + 1
  | _ => 0
def deps : List D → Nat
  | [] => 0
  | d :: ds => max (dep d) (deps ds)
end
mutual
def eqb : D → D → Bool
  | .non, .non => true
  | .bl a, .bl b => a == b
  | .bl a, .int j => (if a then 1 else 0) == j
  | .int i, .bl b => i == (if b then 1 else 0)
  | .int i, .int j => i == j
  | .str s, .str t => s == t
  | .lst a, .lst b => eqbs a b
  | .lst a, .fls b => eqbs a b
  | .fls a, .lst b => eqbs a b
  | .fls a, .fls b => eqbs a b
  | .tup a, .tup b => eqbs a b
  | _, _ => false
def eqbs : List D → List D → Bool
  | [], [] => true
  | x :: xs, y :: ys => eqb x y && eqbs xs ys
  | _, _ => false
end
mutual
theorem pd_ok : ∀ d : D, okE d = true → (pd d).canLay0 = true
  | .non, _ => rfl
  | .bl _, _ => rfl
  | .int _, _ => rfl
  | .str s, h => by
    have h : s.all (· < 1114112) = true := h
    show PyData.strOk ⟨s.toArray⟩ = true
    unfold PyData.strOk
    simpa using h
  | .tup ds, h => by show PyData.canLayAll0 (pds ds) = true; exact pds_ok ds h
  | .lst ds, h => by show PyData.canLayAll0 (pds ds) = true; exact pds_ok ds h
  | .fls ds, h => by show PyData.canLayAll0 (pds ds) = true; exact pds_ok ds h
  | .dic _ _, h => by cases h
theorem pds_ok : ∀ ds : List D, okEs ds = true → PyData.canLayAll0 (pds ds) = true
  | [], _ => rfl
  | d :: ds, h => by
    have h := Bool.and_eq_true_iff.mp (show (okE d && okEs ds) = true from h)
    show (PyData.canLay0 (pd d) && PyData.canLayAll0 (pds ds)) = true
    rw [pd_ok d h.1, pds_ok ds h.2]
    rfl
end
mutual
theorem pd_dep : ∀ d : D, (pd d).depth = dep d
  | .non => rfl
  | .bl _ => rfl
  | .int _ => rfl
  | .str s => rfl
  | .tup ds => by show PyData.depthAll (pds ds) + 1 = deps ds + 1; rw [pds_dep ds]
  | .lst ds => by show PyData.depthAll (pds ds) + 1 = deps ds + 1; rw [pds_dep ds]
  | .fls ds => by show PyData.depthAll (pds ds) + 1 = deps ds + 1; rw [pds_dep ds]
  | .dic _ _ => rfl
theorem pds_dep : ∀ ds : List D, PyData.depthAll (pds ds) = deps ds
  | [] => rfl
  | d :: ds => by show max _ _ = max _ _; rw [pd_dep d, pds_dep ds]
end
theorem str_beq (s t : List Nat) : ((⟨s.toArray⟩ : Str) == ⟨t.toArray⟩) = (s == t) := by
  rw [Bool.eq_iff_iff]
  simp
mutual
theorem pd_eqv : ∀ d e : D, okE d = true → okE e = true → PyData.eqv (pd d) (pd e) = eqb d e
  | .str s, .str t, _, _ => str_beq s t
  | .tup a, .tup b, h, g => pds_eqv a b h g
  | .lst a, .lst b, h, g => pds_eqv a b h g
  | .lst a, .fls b, h, g => pds_eqv a b h g
  | .fls a, .lst b, h, g => pds_eqv a b h g
  | .fls a, .fls b, h, g => pds_eqv a b h g
  | .dic _ _, _, h, _ => by cases h
  | _, .dic _ _, _, h => by cases h
  | .non, .non, _, _ | .non, .bl _, _, _ | .non, .int _, _, _ | .non, .str _, _, _ | .non, .tup _, _, _ | .non, .lst _, _, _ | .non, .fls _, _, _ => rfl
  | .bl _, .non, _, _ | .bl _, .bl _, _, _ | .bl _, .int _, _, _ | .bl _, .str _, _, _ | .bl _, .tup _, _, _ | .bl _, .lst _, _, _ | .bl _, .fls _, _, _ => rfl
  | .int _, .non, _, _ | .int _, .bl _, _, _ | .int _, .int _, _, _ | .int _, .str _, _, _ | .int _, .tup _, _, _ | .int _, .lst _, _, _ | .int _, .fls _, _, _ => rfl
  | .str _, .non, _, _ | .str _, .bl _, _, _ | .str _, .int _, _, _ | .str _, .tup _, _, _ | .str _, .lst _, _, _ | .str _, .fls _, _, _ => rfl
  | .tup _, .non, _, _ | .tup _, .bl _, _, _ | .tup _, .int _, _, _ | .tup _, .str _, _, _ | .tup _, .lst _, _, _ | .tup _, .fls _, _, _ => rfl
  | .lst _, .non, _, _ | .lst _, .bl _, _, _ | .lst _, .int _, _, _ | .lst _, .str _, _, _ | .lst _, .tup _, _, _ => rfl
  | .fls _, .non, _, _ | .fls _, .bl _, _, _ | .fls _, .int _, _, _ | .fls _, .str _, _, _ | .fls _, .tup _, _, _ => rfl
theorem pds_eqv : ∀ a b : List D, okEs a = true → okEs b = true → PyData.eqvAll (pds a) (pds b) = eqbs a b
  | [], [], _, _ => rfl
  | [], _ :: _, _, _ => rfl
  | _ :: _, [], _, _ => rfl
  | d :: a, e :: b, h, g => by
    have h := Bool.and_eq_true_iff.mp (show (okE d && okEs a) = true from h)
    have g := Bool.and_eq_true_iff.mp (show (okE e && okEs b) = true from g)
    show (PyData.eqv (pd d) (pd e) && PyData.eqvAll (pds a) (pds b)) = (eqb d e && eqbs a b)
    rw [pd_eqv d e h.1 g.1, pds_eqv a b h.2 g.2]
end
mutual
theorem dp_rz {K : PySem.W.Frag} {F H : Hp} (hf : Le F H) : ∀ (d : D) (x : V), okE d = true → Rz K F x d → Dp K H x (pd d)
  | .non, x, _, h => by have h : x = .non := h; subst h; exact .non
  | .bl b, x, _, h => by have h : x = .bl b := h; subst h; exact .bl b
  | .int i, x, _, h => by have h : x = .int i := h; subst h; exact .int i
  | .str s, x, _, h => by have h : x = .str ⟨s.toArray⟩ := h; subst h; exact .str _
  | .tup ds, x, ho, h => by
    obtain ⟨a, xs, rfl, h1, h2⟩ := h
    exact .tup (sqT_le hf h1) (dps_rz hf ds xs ho h2)
  | .lst ds, x, ho, h => by
    obtain ⟨a, xs, rfl, h1, h2⟩ := h
    exact .lst (SqL.of (hf _ _ h1)) (dps_rz hf ds xs ho h2)
  | .fls ds, x, ho, h => by
    obtain ⟨a, xs, rfl, h1, h2⟩ := h
    exact .lst (sqL_le hf h1) (dps_rz hf ds xs ho h2)
  | .dic _ _, x, ho, h => by cases ho
theorem dps_rz {K : PySem.W.Frag} {F H : Hp} (hf : Le F H) : ∀ (ds : List D) (xs : List V), okEs ds = true → Rzs K F xs ds → DpAll K H xs (pds ds)
  | [], xs, _, h => by have h : xs = [] := h; subst h; exact .nil
  | d :: ds, xs, ho, h => by
    obtain ⟨x, r, rfl, h1, h2⟩ := h
    have ho := Bool.and_eq_true_iff.mp (show (okE d && okEs ds) = true from ho)
    exact .cons (dp_rz hf d x ho.1 h1) (dps_rz hf ds r ho.2 h2)
end
theorem dp_ef {K : PySem.W.Frag} {F H : Hp} (hf : Le F H) {d : D} {x : V} (ho : okE d = true) (h : EFv K F H x d) : Dp K H x (pd d) := dp_rz (Le.refl H) d x ho (EFv.rz hf h)
def scalD : D → D → Bool
  | .non, .non => true | .non, .int _ => true | .int _, .non => true | .non, .bl _ => true | .bl _, .non => true | .non, .str _ => true | .str _, .non => true
  | .int _, .int _ => true | .bl _, .bl _ => true | .str _, .str _ => true
  | .int _, .str _ => true | .str _, .int _ => true | .bl _, .str _ => true | .str _, .bl _ => true
  | _, _ => false
def canEq (d e : D) : Bool := scalD d e || (okE d && okE e && decide (dep d ≤ 64) && decide (dep e ≤ 64))
def eqD (d e : D) : Option (Nat × D) := if canEq d e then some (0, .bl (eqb d e)) else none
def neD (d e : D) : Option (Nat × D) := if canEq d e then some (0, .bl (!eqb d e)) else none
theorem scal_of {K : PySem.W.Frag} {F H : Hp} {d e : D} {x y : V} (h1 : EFv K F H x d) (h2 : EFv K F H y e) (h : scalD d e = true) : scal x y = true ∧ decide (x = y) = eqb d e := by
  unfold scalD at h
  split at h
  all_goals first
    | (cases h; done)
    | (have h1 : x = _ := h1
       have h2 : y = _ := h2
       subst h1 h2
       refine ⟨rfl, ?_⟩
       first
         | rfl
         | (simp [eqb]; done)
         | (rw [Bool.eq_iff_iff]; simp [eqb]))
theorem shaped_of {d : D} (h1 : okE d = true) (h2 : dep d ≤ 64) : SeqAt.shaped (pd d) = true := by
  unfold SeqAt.shaped
  rw [pd_ok d h1, pd_dep]
  simpa using h2
section
variable {X : Cx}
theorem o_eq (hu : X.A.units + 64 < cLine) : OpR X (compareOp .Eq) (fun x y H Q => rEq x y H Q ∨ rEqD X.K x y H Q) ∧ Op2 X.K (fun x y H Q => rEq x y H Q ∨ rEqD X.K x y H Q) eqD := by
  refine ⟨op_eq.or (op_eqD hu), ?_⟩
  intro F H x y d1 d2 k d hf h1 h2 hd Q q
  unfold eqD at hd
  split at hd
  case isFalse => cases hd
  rename_i hc
  cases hd
  unfold canEq at hc
  rcases Bool.or_eq_true_iff.mp hc with hc | hc
  · obtain ⟨g1, g2⟩ := scal_of h1 h2 hc
    exact .inl ⟨g1, by rw [g2]; exact q _ _ (.same rfl)⟩
  · simp only [Bool.and_eq_true, decide_eq_true_eq] at hc
    obtain ⟨⟨⟨c1, c2⟩, c3⟩, c4⟩ := hc
    refine .inr ⟨pd d1, pd d2, dp_ef hf c1 h1, dp_ef hf c2 h2, shaped_of c1 c3, shaped_of c2 c4, ?_⟩
    rw [pd_eqv _ _ c1 c2]
    exact q _ _ (.same rfl)
theorem o_ne (hu : X.A.units + 64 < cLine) : OpR X (compareOp .NotEq) (fun x y H Q => rNe x y H Q ∨ rNeD X.K x y H Q) ∧ Op2 X.K (fun x y H Q => rNe x y H Q ∨ rNeD X.K x y H Q) neD := by
  refine ⟨op_ne.or (op_neD hu), ?_⟩
  intro F H x y d1 d2 k d hf h1 h2 hd Q q
  unfold neD at hd
  split at hd
  case isFalse => cases hd
  rename_i hc
  cases hd
  unfold canEq at hc
  rcases Bool.or_eq_true_iff.mp hc with hc | hc
  · obtain ⟨g1, g2⟩ := scal_of h1 h2 hc
    exact .inl ⟨g1, by rw [g2]; exact q _ _ (.same rfl)⟩
  · simp only [Bool.and_eq_true, decide_eq_true_eq] at hc
    obtain ⟨⟨⟨c1, c2⟩, c3⟩, c4⟩ := hc
    refine .inr ⟨pd d1, pd d2, dp_ef hf c1 h1, dp_ef hf c2 h2, shaped_of c1 c3, shaped_of c2 c4, ?_⟩
    rw [pd_eqv _ _ c1 c2]
    exact q _ _ (.same rfl)
end
end DN

set_option Elab.async false
set_option linter.all false
set_option maxRecDepth 100000
set_option maxHeartbeats 1000000
namespace DN
open PySem PySem.Spec PyProof.Rows L2

/-! ### the order -/
def ltb (d e : D) : Bool := PySem.W.dataLt (pd d) (pd e)
def nonD : D → Bool
  | .non => true | .dic _ _ => true | _ => false
def canLt (d e : D) : Bool := PySem.W.alike (pd d) (pd e) && !nonD d && okE d && okE e && decide (dep d ≤ 64)
def ltD : D → D → Option (Nat × D)
  | .int i, .int j => some (0, .bl (decide (i < j)))
  | d, e => if canLt d e then some (0, .bl (ltb d e)) else none
def gtD : D → D → Option (Nat × D)
  | .int i, .int j => some (0, .bl (decide (j < i)))
  | d, e => if canLt d e then some (0, .bl (ltb e d)) else none
def leD : D → D → Option (Nat × D)
  | .int i, .int j => some (0, .bl (decide (i ≤ j)))
  | d, e => if canLt d e then some (0, .bl (!ltb e d)) else none
def geD : D → D → Option (Nat × D)
  | .int i, .int j => some (0, .bl (decide (j ≤ i)))
  | d, e => if canLt d e then some (0, .bl (!ltb d e)) else none
def rOrd (K : PySem.W.Frag) (f : PyData → PyData → Bool) : R2 := fun x y H Q => ∃ d e, Dp K H x d ∧ Dp K H y e ∧ PySem.W.alike d e = true ∧ d ≠ .none ∧ d.depth ≤ 64 ∧ Q (.bl (f d e)) H
section
variable {X : Cx}
theorem dep_room {n : Nat} {d e : PyData} (hu : n + 64 < cLine) (h : d.depth ≤ 64) : n + min d.depth e.depth < cLine := by omega
theorem op_ltD (hu : X.A.units + 64 < cLine) : OpR X (compareOp .Lt) (rOrd X.K fun d e => PySem.W.dataLt d e) := by
  intro pins s σ H x y v u Q I rx ry h
  obtain ⟨d, e, hd, he, ha, hn, hz, q⟩ := h
  obtain ⟨as, r1⟩ := Dp.reads I d x v hd rx
  obtain ⟨bs, r2⟩ := Dp.reads I e y u he ry
  exact PySem.W.lt_data r1 r2 ha hn (dep_room hu hz) ⟨.bl _, H, I, rfl, q⟩
theorem op_gtD (hu : X.A.units + 64 < cLine) : OpR X (compareOp .Gt) (rOrd X.K fun d e => PySem.W.dataLt e d) := by
  intro pins s σ H x y v u Q I rx ry h
  obtain ⟨d, e, hd, he, ha, hn, hz, q⟩ := h
  obtain ⟨as, r1⟩ := Dp.reads I d x v hd rx
  obtain ⟨bs, r2⟩ := Dp.reads I e y u he ry
  exact PySem.W.gt_data r1 r2 ha hn (dep_room hu hz) ⟨.bl _, H, I, rfl, q⟩
theorem op_leD (hu : X.A.units + 64 < cLine) : OpR X (compareOp .LtE) (rOrd X.K fun d e => !PySem.W.dataLt e d) := by
  intro pins s σ H x y v u Q I rx ry h
  obtain ⟨d, e, hd, he, ha, hn, hz, q⟩ := h
  obtain ⟨as, r1⟩ := Dp.reads I d x v hd rx
  obtain ⟨bs, r2⟩ := Dp.reads I e y u he ry
  exact PySem.W.le_data r1 r2 ha hn (dep_room hu hz) ⟨.bl _, H, I, rfl, q⟩
theorem op_geD (hu : X.A.units + 64 < cLine) : OpR X (compareOp .GtE) (rOrd X.K fun d e => !PySem.W.dataLt d e) := by
  intro pins s σ H x y v u Q I rx ry h
  obtain ⟨d, e, hd, he, ha, hn, hz, q⟩ := h
  obtain ⟨as, r1⟩ := Dp.reads I d x v hd rx
  obtain ⟨bs, r2⟩ := Dp.reads I e y u he ry
  exact PySem.W.ge_data r1 r2 ha hn (dep_room hu hz) ⟨.bl _, H, I, rfl, q⟩
theorem ord_ok {K : PySem.W.Frag} {F H : Hp} {x y : V} {d e : D} {f : PyData → PyData → Bool} (hf : Le F H) (h1 : EFv K F H x d) (h2 : EFv K F H y e) (hc : canLt d e = true) {Q : VK} (q : Q (.bl (f (pd d) (pd e))) H) : rOrd K f x y H Q := by
  unfold canLt at hc
  simp only [Bool.and_eq_true, decide_eq_true_eq, Bool.not_eq_true'] at hc
  obtain ⟨⟨⟨⟨c1, c2⟩, c3⟩, c4⟩, c5⟩ := hc
  refine ⟨pd d, pd e, dp_ef hf c3 h1, dp_ef hf c4 h2, c1, fun z => ?_, by rw [pd_dep]; exact c5, q⟩
  cases d <;> first | (cases c2; done) | (cases z; done)
theorem o_ord {op : CmpOp} {b : Int → Int → Bool} {f : PyData → PyData → Bool} {g : D → D → Option (Nat × D)} (h1 : OpR X (compareOp op) (rI0 fun i j => .bl (b i j))) (h2 : OpR X (compareOp op) (rOrd X.K f))
    (hg : ∀ d e k r, g d e = some (k, r) → (∃ i j, d = .int i ∧ e = .int j ∧ k = 0 ∧ r = .bl (b i j)) ∨ (canLt d e = true ∧ k = 0 ∧ r = .bl (f (pd d) (pd e)))) :
    OpR X (compareOp op) (fun x y H Q => rI0 (fun i j => .bl (b i j)) x y H Q ∨ rOrd X.K f x y H Q) ∧ Op2 X.K (fun x y H Q => rI0 (fun i j => .bl (b i j)) x y H Q ∨ rOrd X.K f x y H Q) g := by
  refine ⟨h1.or h2, ?_⟩
  intro F H x y d1 d2 k d hf e1 e2 hd Q q
  rcases hg _ _ _ _ hd with ⟨i, j, rfl, rfl, rfl, rfl⟩ | ⟨hc, rfl, rfl⟩
  · exact .inl ⟨i, j, e1, e2, q _ _ (.same rfl)⟩
  · exact .inr (ord_ok hf e1 e2 hc (q _ _ (.same rfl)))
theorem o_lt (hu : X.A.units + 64 < cLine) : OpR X (compareOp .Lt) (fun x y H Q => rI0 (fun i j => .bl (decide (i < j))) x y H Q ∨ rOrd X.K (fun d e => PySem.W.dataLt d e) x y H Q) ∧ Op2 X.K (fun x y H Q => rI0 (fun i j => .bl (decide (i < j))) x y H Q ∨ rOrd X.K (fun d e => PySem.W.dataLt d e) x y H Q) ltD :=
  o_ord op_lt (op_ltD hu) fun d e k r h => by
    unfold ltD at h
    split at h
    · cases h; exact .inl ⟨_, _, rfl, rfl, rfl, rfl⟩
    · split at h
      · rename_i hc; cases h; exact .inr ⟨hc, rfl, rfl⟩
      · cases h
theorem o_gt (hu : X.A.units + 64 < cLine) : OpR X (compareOp .Gt) (fun x y H Q => rI0 (fun i j => .bl (decide (j < i))) x y H Q ∨ rOrd X.K (fun d e => PySem.W.dataLt e d) x y H Q) ∧ Op2 X.K (fun x y H Q => rI0 (fun i j => .bl (decide (j < i))) x y H Q ∨ rOrd X.K (fun d e => PySem.W.dataLt e d) x y H Q) gtD :=
  o_ord op_gt (op_gtD hu) fun d e k r h => by
    unfold gtD at h
    split at h
    · cases h; exact .inl ⟨_, _, rfl, rfl, rfl, rfl⟩
    · split at h
      · rename_i hc; cases h; exact .inr ⟨hc, rfl, rfl⟩
      · cases h
theorem o_le (hu : X.A.units + 64 < cLine) : OpR X (compareOp .LtE) (fun x y H Q => rI0 (fun i j => .bl (decide (i ≤ j))) x y H Q ∨ rOrd X.K (fun d e => !PySem.W.dataLt e d) x y H Q) ∧ Op2 X.K (fun x y H Q => rI0 (fun i j => .bl (decide (i ≤ j))) x y H Q ∨ rOrd X.K (fun d e => !PySem.W.dataLt e d) x y H Q) leD :=
  o_ord op_le (op_leD hu) fun d e k r h => by
    unfold leD at h
    split at h
    · cases h; exact .inl ⟨_, _, rfl, rfl, rfl, rfl⟩
    · split at h
      · rename_i hc; cases h; exact .inr ⟨hc, rfl, rfl⟩
      · cases h
theorem o_ge (hu : X.A.units + 64 < cLine) : OpR X (compareOp .GtE) (fun x y H Q => rI0 (fun i j => .bl (decide (j ≤ i))) x y H Q ∨ rOrd X.K (fun d e => !PySem.W.dataLt d e) x y H Q) ∧ Op2 X.K (fun x y H Q => rI0 (fun i j => .bl (decide (j ≤ i))) x y H Q ∨ rOrd X.K (fun d e => !PySem.W.dataLt d e) x y H Q) geD :=
  o_ord op_ge (op_geD hu) fun d e k r h => by
    unfold geD at h
    split at h
    · cases h; exact .inl ⟨_, _, rfl, rfl, rfl, rfl⟩
    · split at h
      · rename_i hc; cases h; exact .inr ⟨hc, rfl, rfl⟩
      · cases h
end

/-! ### in, not in -/
def inD : D → D → Option (Nat × D)
  | .str [c], .str s => some (0, .bl (decide (c ∈ s)))
  | d, .lst ds => if okE d && okEs ds && decide (dep d ≤ 64) && decide (deps ds ≤ 63) then some (0, .bl (ds.any fun z => eqb z d)) else none
  | d, .fls ds => if okE d && okEs ds && decide (dep d ≤ 64) && decide (deps ds ≤ 63) then some (0, .bl (ds.any fun z => eqb z d)) else none
  | d, .tup ds => if okE d && okEs ds && decide (dep d ≤ 64) && decide (deps ds ≤ 63) then some (0, .bl (ds.any fun z => eqb z d)) else none
  | _, _ => none
def ninD (d e : D) : Option (Nat × D) := match inD d e with
  | some (_, .bl b) => some (0, .bl (!b))
  | _ => none
def rInS1 (neg : Bool) : R2 := fun x y H Q => ∃ (c : Nat) (s : List Nat), x = .str ⟨#[c]⟩ ∧ y = .str ⟨s.toArray⟩ ∧ Q (.bl (if neg then !decide (c ∈ s) else decide (c ∈ s))) H
/-- x in a list or tuple, data of any depth -/
def rInT (K : PySem.W.Frag) (neg : Bool) : R2 := fun x y H Q => ∃ d ds, Dp K H x d ∧ (Dp K H y (.list ds) ∨ Dp K H y (.tuple ds)) ∧ SeqAt.shaped d = true ∧ SeqAt.shaped (.list ds) = true ∧ Q (.bl (if neg then !(ds.any fun z => PyData.eqv z d) else ds.any fun z => PyData.eqv z d)) H
section
variable {X : Cx}
theorem op_inS1 : OpR X (compareOp .In) (rInS1 false) := by
  intro pins s σ H x y v u Q I rx ry h
  obtain ⟨c, z, rfl, rfl, q⟩ := h
  refine op_in_str pins s σ H _ _ v u Q I rx ry ⟨_, _, rfl, rfl, ?_⟩
  rw [StrLaws.found_one]
  exact q
theorem op_ninS1 : OpR X (compareOp .NotIn) (rInS1 true) := by
  intro pins s σ H x y v u Q I rx ry h
  obtain ⟨c, z, rfl, rfl, q⟩ := h
  refine op_notin_str pins s σ H _ _ v u Q I rx ry ⟨_, _, rfl, rfl, ?_⟩
  rw [StrLaws.found_one]
  exact q
theorem any_readOf {h : Heap} {ds : List PyData} {its : List Value} {as : List Addr} {d : PyData} (hxs : PyData.canLayAll0 ds = true) (r : ReadsAll h its ds as) : (its.toArray.any fun u => PyData.eqv (SeqAt.readOf h u) d) = ds.any fun z => PyData.eqv z d := by
  rw [← SeqAt.readsAll_map ds its as hxs r, List.any_map]
  simp
  rfl
theorem op_inT (hu : X.A.units + 65 < cLine) : OpR X (compareOp .In) (rInT X.K false) := by
  intro pins s σ H x y v u Q I rx ry h
  obtain ⟨d, ds, hd, he, sd, se, q⟩ := h
  obtain ⟨as, r1⟩ := Dp.reads I d x v hd rx
  rcases he with he | he
  · obtain ⟨bs, r2⟩ := Dp.reads I (.list ds) y u he ry
    exact SeqAt.in_list_reads r2 r1 (SeqAt.canLay_of_shaped se) (SeqAt.canLay_of_shaped sd) (room_in_shaped sd hu) ⟨.bl _, H, I, rfl, q⟩
  · have hxs : PyData.canLayAll0 ds = true := SeqAt.canLay_of_shaped se
    have hroom : X.A.units + 1 + min (PyData.depthAll ds) d.depth < cLine := room_in_shaped sd hu
    cases he with
    | tup hs ha =>
      cases ry
      obtain ⟨its, rv, ht, hlen⟩ := I.tuple hs
      obtain ⟨bs, r2⟩ := Dp.readsAll I ds _ its ha rv
      refine SeqAt.in_tupleAt (fun u => PyData.eqv (SeqAt.readOf s.heap u) d) ht (SeqAt.items_eqAt (vs := its.toArray) (show ReadsAll s.heap its.toArray.toList ds bs from r2) r1 hxs (SeqAt.canLay_of_shaped sd) hroom) ⟨.bl _, H, I, rfl, ?_⟩
      rw [any_readOf hxs r2]
      exact q
theorem op_ninT (hu : X.A.units + 65 < cLine) : OpR X (compareOp .NotIn) (rInT X.K true) := by
  intro pins s σ H x y v u Q I rx ry h
  obtain ⟨d, ds, hd, he, sd, se, q⟩ := h
  obtain ⟨as, r1⟩ := Dp.reads I d x v hd rx
  rcases he with he | he
  · obtain ⟨bs, r2⟩ := Dp.reads I (.list ds) y u he ry
    exact SeqAt.notIn_list_reads r2 r1 (SeqAt.canLay_of_shaped se) (SeqAt.canLay_of_shaped sd) (room_in_shaped sd hu) ⟨.bl _, H, I, rfl, q⟩
  · have hxs : PyData.canLayAll0 ds = true := SeqAt.canLay_of_shaped se
    have hroom : X.A.units + 1 + min (PyData.depthAll ds) d.depth < cLine := room_in_shaped sd hu
    cases he with
    | tup hs ha =>
      cases ry
      obtain ⟨its, rv, ht, hlen⟩ := I.tuple hs
      obtain ⟨bs, r2⟩ := Dp.readsAll I ds _ its ha rv
      refine SeqAt.notIn_tupleAt (fun u => PyData.eqv (SeqAt.readOf s.heap u) d) ht (SeqAt.items_eqAt (vs := its.toArray) (show ReadsAll s.heap its.toArray.toList ds bs from r2) r1 hxs (SeqAt.canLay_of_shaped sd) hroom) ⟨.bl _, H, I, rfl, ?_⟩
      rw [any_readOf hxs r2]
      exact q
theorem any_pds {d : D} (hd : okE d = true) : ∀ ds : List D, okEs ds = true → ((pds ds).any fun z => PyData.eqv z (pd d)) = ds.any fun z => eqb z d
  | [], _ => rfl
  | e :: ds, h => by
    have h := Bool.and_eq_true_iff.mp (show (okE e && okEs ds) = true from h)
    show (PyData.eqv (pd e) (pd d) || (pds ds).any fun z => PyData.eqv z (pd d)) = (eqb e d || ds.any fun z => eqb z d)
    rw [pd_eqv e d h.1 hd, any_pds hd ds h.2]
theorem inT_of {K : PySem.W.Frag} {F H : Hp} {x y : V} {d e : D} {ds : List D} {neg : Bool} (hf : Le F H) (h1 : EFv K F H x d) (h2 : EFv K F H y e) (he : e = .lst ds ∨ e = .fls ds ∨ e = .tup ds)
    (hc : (okE d && okEs ds && decide (dep d ≤ 64) && decide (deps ds ≤ 63)) = true) {Q : VK} (q : Q (.bl (if neg then !(ds.any fun z => eqb z d) else ds.any fun z => eqb z d)) H) : rInT K neg x y H Q := by
  simp only [Bool.and_eq_true, decide_eq_true_eq] at hc
  obtain ⟨⟨⟨c1, c2⟩, c3⟩, c4⟩ := hc
  have sh : SeqAt.shaped (.list (pds ds)) = true := shaped_of (d := .lst ds) c2 (by show deps ds + 1 ≤ 64; omega)
  refine ⟨pd d, pds ds, dp_ef hf c1 h1, ?_, shaped_of c1 c3, sh, by rw [any_pds c1 ds c2]; exact q⟩
  rcases he with rfl | rfl | rfl
  · exact .inl (dp_ef (d := .lst ds) hf c2 h2)
  · exact .inl (dp_ef (d := .fls ds) hf c2 h2)
  · exact .inr (dp_ef (d := .tup ds) hf c2 h2)
theorem o_in (hu : X.A.units + 65 < cLine) : OpR X (compareOp .In) (fun x y H Q => rInS1 false x y H Q ∨ rInT X.K false x y H Q) ∧ Op2 X.K (fun x y H Q => rInS1 false x y H Q ∨ rInT X.K false x y H Q) inD := by
  refine ⟨op_inS1.or (op_inT hu), ?_⟩
  intro F H x y d1 d2 k d hf h1 h2 hd Q q
  unfold inD at hd
  split at hd
  · cases hd
    exact .inl ⟨_, _, h1, h2, q _ _ (.same rfl)⟩
  · split at hd
    · rename_i hc; cases hd; exact .inr (inT_of hf h1 h2 (.inl rfl) hc (q _ _ (.same rfl)))
    · cases hd
  · split at hd
    · rename_i hc; cases hd; exact .inr (inT_of hf h1 h2 (.inr (.inl rfl)) hc (q _ _ (.same rfl)))
    · cases hd
  · split at hd
    · rename_i hc; cases hd; exact .inr (inT_of hf h1 h2 (.inr (.inr rfl)) hc (q _ _ (.same rfl)))
    · cases hd
  · cases hd
theorem o_nin (hu : X.A.units + 65 < cLine) : OpR X (compareOp .NotIn) (fun x y H Q => rInS1 true x y H Q ∨ rInT X.K true x y H Q) ∧ Op2 X.K (fun x y H Q => rInS1 true x y H Q ∨ rInT X.K true x y H Q) ninD := by
  refine ⟨op_ninS1.or (op_ninT hu), ?_⟩
  intro F H x y d1 d2 k d hf h1 h2 hd Q q
  unfold ninD at hd
  split at hd
  case h_2 => cases hd
  rename_i k' b e
  cases hd
  unfold inD at e
  split at e
  · cases e
    exact .inl ⟨_, _, h1, h2, q _ _ (.same rfl)⟩
  · split at e
    · rename_i hc; cases e; exact .inr (inT_of hf h1 h2 (.inl rfl) hc (q _ _ (.same rfl)))
    · cases e
  · split at e
    · rename_i hc; cases e; exact .inr (inT_of hf h1 h2 (.inr (.inl rfl)) hc (q _ _ (.same rfl)))
    · cases e
  · split at e
    · rename_i hc; cases e; exact .inr (inT_of hf h1 h2 (.inr (.inr rfl)) hc (q _ _ (.same rfl)))
    · cases e
  · cases e
end

/-! ### is None -/
def isnB : D → Bool
  | .non => true | _ => false
def isN : D → D → Option (Nat × D)
  | d, .non => some (0, .bl (isnB d))
  | _, _ => none
def notN : D → D → Option (Nat × D)
  | d, .non => some (0, .bl (!isnB d))
  | _, _ => none
theorem isn_of {K : PySem.W.Frag} {F H : Hp} {x : V} {d : D} (h : EFv K F H x d) : decide (x = .non) = isnB d := by
  cases d with
  | non => have h : x = _ := h; subst h; rfl
  | bl b => have h : x = _ := h; subst h; rfl
  | int b => have h : x = _ := h; subst h; rfl
  | str b => have h : x = _ := h; subst h; rfl
  | tup ds => obtain ⟨a, xs, rfl, _⟩ := h; rfl
  | lst ds => obtain ⟨a, xs, rfl, _⟩ := h; rfl
  | fls ds => obtain ⟨a, xs, rfl, _⟩ := h; rfl
  | dic ks ds => obtain ⟨a, xs, rfl, _⟩ := h; rfl
section
variable {X : Cx}
theorem o_is : OpR X (compareOp .Is) (fun x y H Q => y = .non ∧ Q (.bl (decide (x = .non))) H) ∧ Op2 X.K (fun x y H Q => y = .non ∧ Q (.bl (decide (x = .non))) H) isN := by
  refine ⟨op_isN, ?_⟩
  intro F H x y d1 d2 k d hf h1 h2 hd Q q
  unfold isN at hd
  split at hd
  · cases hd
    exact ⟨h2, by rw [isn_of h1]; exact q _ _ (.same rfl)⟩
  · cases hd
theorem o_isnot : OpR X (compareOp .IsNot) (fun x y H Q => y = .non ∧ Q (.bl (!decide (x = .non))) H) ∧ Op2 X.K (fun x y H Q => y = .non ∧ Q (.bl (!decide (x = .non))) H) notN := by
  refine ⟨op_notN, ?_⟩
  intro F H x y d1 d2 k d hf h1 h2 hd Q q
  unfold notN at hd
  split at hd
  · cases hd
    exact ⟨h2, by rw [isn_of h1]; exact q _ _ (.same rfl)⟩
  · cases hd
end
end DN

set_option Elab.async false
set_option linter.all false
set_option maxRecDepth 100000
set_option maxHeartbeats 1000000
namespace DN
open PySem PySem.Spec PyProof.Rows L2

/-! ### a < b < c -/
def dChain (f g : D → D → Option (Nat × D)) (fa fb fc : Ev → R T) : Ev → R T := fun ev => (fa ev).bind fun t ev1 => (fb ev1).bind fun u ev2 => match t.rd ev2, u.rd ev2 with
  | some d, some e => (match f d e with
    | some (0, .bl b) => if b = true then (fc ev2).bind fun w ev3 => (match u.rd ev3, w.rd ev3 with
      | some e, some h => out (g e h) ev3
      | _, _ => .bad) else .ok (.vl 0 (.bl false)) ev2
    | _ => .bad)
  | _, _ => .bad
section
variable {K : PySem.W.Frag} {xm : XM} {ta tb tc : TE} {fa fb fc : Ev → R T}
theorem new_bl {F H H' : Hp} {v : V} {b : Bool} (n : New K F H v H' 0 (.bl b)) : v = .bl b ∧ H' = H := by
  generalize hk : (0 : Nat) = k at n
  generalize hd : D.bl b = d at n
  cases n with
  | same h => subst hd; exact ⟨h, rfl⟩
  | lst _ _ => cases hk
  | tup _ _ => cases hd
  | dK _ _ _ => cases hk
  | dT _ _ _ => cases hk
theorem we_chain {r r' : R2} {f g : D → D → Option (Nat × D)} (hr : Op2 K r f) (hr' : Op2 K r' g) (ha : WE K xm ta fa) (hb : WE K xm tb fb) (hc : WE K xm tc fc) : WE K xm (tChain r r' ta tb tc) (dChain f g fa fb fc) := by
  intro σ τ H ev hl hr0
  refine Res.bind (k := fun x H1 Q => tb σ H1 fun y H2 => r x y H2 fun z H3 => ∃ k, z = .bl k ∧ (if k = true then tc σ H3 fun w' H4 => r' y w' H4 Q else Q (.bl false) H3)) (ha σ τ H ev hl hr0) fun t v ev1 H1 _ hl1 hr1 ho1 => ?_
  refine Res.bind (k := fun y H2 Q => r v y H2 fun z H3 => ∃ k, z = .bl k ∧ (if k = true then tc σ H3 fun w' H4 => r' y w' H4 Q else Q (.bl false) H3)) (hb σ _ H1 ev1 hl1 hr1) fun u w ev2 H2 _ hl2 hr2 ho2 => ?_
  cases e : t.rd ev2 with
  | none => trivial
  | some d =>
    cases e' : u.rd ev2 with
    | none => trivial
    | some d2 =>
      show Res K xm iT σ _ (match f d d2 with | some (0, .bl b) => _ | _ => .bad) _
      split
      case h_2 => trivial
      rename_i b ef
      have step : ∀ Q : VK, Q (.bl b) H2 → r v w H2 Q := fun Q q => by
        obtain ⟨F, A, c⟩ := id hr2
        refine hr F H2 v w d d2 0 (.bl b) c.sub (rd_ef c (List.mem_cons_of_mem _ (mem_ent σ v t τ)) ho1 e) (rd_ef c (mem_ent σ w u _) ho2 e') ef Q fun z H' n => ?_
        obtain ⟨rfl, rfl⟩ := new_bl n
        exact q
      cases b with
      | false => exact Res.scal hl2 hr2 (v := .bl false) (fun _ => rfl) fun Q q => step _ ⟨false, rfl, q⟩
      | true =>
        refine Res.imp (c := fun Q => tc σ H2 fun w' H4 => r' w w' H4 Q) ?_ fun Q q => step _ ⟨true, rfl, q⟩
        refine Res.bind (k := fun y H4 Q => r' w y H4 Q) (hc σ _ H2 ev2 hl2 hr2) fun u3 w3 ev3 H3 _ hl3 hr3 ho3 => ?_
        cases e3 : u.rd ev3 with
        | none => trivial
        | some d3 =>
          cases e4 : u3.rd ev3 with
          | none => trivial
          | some d4 => exact res_out hl3 hr3 fun F A k d' c ho Q q => hr' F H3 w w3 d3 d4 k d' c.sub (rd_ef c (List.mem_cons_of_mem _ (mem_ent σ w u _)) ho2 e3) (rd_ef c (mem_ent σ w3 u3 _) ho3 e4) ho Q q
end
section
variable {X : Cx} {xm : XM} {a b c : Expr} {fa fb fc : Ev → R T} {pos : Pos}
theorem px_chain {op op' : CmpOp} {r r' : R2} {f g : D → D → Option (Nat × D)} (ho : OpR X (compareOp op) r ∧ Op2 X.K r f) (ho' : OpR X (compareOp op') r' ∧ Op2 X.K r' g) (ha : PX X xm a fa) (hb : PX X xm b fb) (hc : PX X xm c fc)
    (hm : lastMarks [op, op'] [b, c] = false := by with_unfolding_all rfl) : PX X xm (.Compare a [op, op'] [b, c] pos) (dChain f g fa fb fc) :=
  PX.of (pe_chain ho.1 ho'.1 ha hb hc hm) (we_chain ho.2 ho'.2 (we_can _) (we_can _) (we_can _))
theorem pxt_chain {op op' : CmpOp} {r r' : R2} {f g : D → D → Option (Nat × D)} (ho : OpR X (compareOp op) r ∧ Op2 X.K r f) (ho' : OpR X (compareOp op') r' ∧ Op2 X.K r' g) (ha : PX X xm a fa) (hb : PX X xm b fb) (hc : PX X xm c fc)
    (hm : lastMarks [op, op'] [b, c] = false := by with_unfolding_all rfl) : PXt X xm (.Compare a [op, op'] [b, c] pos) (dTest (dChain f g fa fb fc)) :=
  PXt.of (pt_chain ho.1 ho'.1 ha hb hc hm) (wt_test (we_chain ho.2 ho'.2 (we_can _) (we_can _) (we_can _)))
end

/-! ### isinstance -/
/-- 0 bool, 1 int, 2 str, 3 tuple, 4 list, 5 dict -/
def tyN : Nat → String
  | 0 => "bool" | 1 => "int" | 2 => "str" | 3 => "tuple" | 4 => "list" | _ => "dict"
def isC : Nat → D → Bool
  | 0, .bl _ => true
  | 1, .bl _ => true
  | 1, .int _ => true
  | 2, .str _ => true
  | 3, .tup _ => true
  | 4, .lst _ => true
  | 4, .fls _ => true
  | 5, .dic _ _ => true
  | _, _ => false
def tyD2 : D → String
  | .non => "NoneType" | .bl _ => "bool" | .int _ => "int" | .str _ => "str" | .tup _ => "tuple" | .lst _ => "list" | .fls _ => "list" | .dic _ _ => "dict"
theorem kitB_all : ∀ c, c < 6 → (kitB "NoneType" (tyN c) = some (isC c .non) ∧ kitB "bool" (tyN c) = some (isC c (.bl true)) ∧ kitB "int" (tyN c) = some (isC c (.int 0)) ∧ kitB "str" (tyN c) = some (isC c (.str [])) ∧
    kitB "tuple" (tyN c) = some (isC c (.tup [])) ∧ kitB "list" (tyN c) = some (isC c (.lst [])) ∧ kitB "dict" (tyN c) = some (isC c (.dic [] []))) := by decide +kernel
theorem kitB_isC {c : Nat} (hc : c < 6) (d : D) : kitB (tyD2 d) (tyN c) = some (isC c d) := by
  obtain ⟨h1, h2, h3, h4, h5, h6, h7⟩ := kitB_all c hc
  have hcc : c = 0 ∨ c = 1 ∨ c = 2 ∨ c = 3 ∨ c = 4 ∨ c = 5 := by omega
  cases d with
  | non => exact h1
  | bl b => rcases hcc with rfl | rfl | rfl | rfl | rfl | rfl <;> exact h2
  | int b => rcases hcc with rfl | rfl | rfl | rfl | rfl | rfl <;> exact h3
  | str b => rcases hcc with rfl | rfl | rfl | rfl | rfl | rfl <;> exact h4
  | tup b => rcases hcc with rfl | rfl | rfl | rfl | rfl | rfl <;> exact h5
  | lst b => rcases hcc with rfl | rfl | rfl | rfl | rfl | rfl <;> exact h6
  | fls b => rcases hcc with rfl | rfl | rfl | rfl | rfl | rfl <;> exact h6
  | dic a b => rcases hcc with rfl | rfl | rfl | rfl | rfl | rfl <;> exact h7
section
variable {K : PySem.W.Frag} {F H : Hp} {x : V}
theorem tyx_sqT {a : Addr} {xs : List V} (h : SqT K H a xs) : TyX K H (.ref a) (.type "tuple") := by
  rcases h with h | ⟨o, its, n, h1, h2, _⟩
  · rcases h with h | ⟨o, h⟩
    · exact .base (.tup h)
    · exact .fTuple h
  · exact .kTuple h1 h2
theorem tyx_sqL {a : Addr} {xs : List V} (h : SqL K H a xs) : TyX K H (.ref a) (.type "list") := by
  rcases h with h | ⟨o, its, n, h1, h2, _⟩
  · rcases h with h | ⟨o, h⟩
    · exact .base (.lst h)
    · exact .base (.frz h)
  · exact .kList h1 h2
theorem tyx_of {d : D} (hf : Le F H) (h : EFv K F H x d) : TyX K H x (.type (tyD2 d)) := by
  cases d with
  | non => have h : x = _ := h; subst h; exact .base .non
  | bl b => have h : x = _ := h; subst h; exact .base (.bl b)
  | int b => have h : x = _ := h; subst h; exact .base (.int b)
  | str b => have h : x = _ := h; subst h; exact .base (.str _)
  | tup ds => obtain ⟨a, xs, rfl, h1, _⟩ := ef_tup hf h; exact tyx_sqT h1
  | lst ds => obtain ⟨a, xs, rfl, h1, _⟩ := ef_lst h; exact .base (.lst h1)
  | fls ds => obtain ⟨a, xs, rfl, h1, _⟩ := ef_fls hf h; exact tyx_sqL h1
  | dic ks ds =>
    obtain ⟨a, xs, rfl, h1, _⟩ := h
    rcases h1 with ⟨kvs, h1, _⟩ | ⟨kvs, h1, _⟩
    · exact .base (.dK h1)
    · exact .base (.dT h1)
end
def dIsi (cs : List Nat) (fa : Ev → R T) : Ev → R T := fun ev => (fa ev).bind fun t ev1 => match t.rd ev1 with
  | some d => .ok (.vl 0 (.bl (cs.any fun c => isC c d))) ev1
  | none => .bad
def tIsi1 (K : PySem.W.Frag) (T : String) (te : TE) : TE := tCB (rIsi K) (tCons te (tCons (tC (.ty T)) tNil))
theorem Rp.lay {K : PySem.W.Frag} {H : Hp} {l : List Ent} {p : Addr} {o : HO} (h : Rp K H l) (hp : H p = none) : Rp K (upd H p o) l := by
  obtain ⟨F, A, c⟩ := h
  obtain ⟨_, _, h3, _⟩ := sep_new (o := o) c hp
  refine ⟨F, A, c.sub.trans (Le.new hp), fun a ha => ?_, c.sep.keep (fun _ h => h) (Le.refl F) h3⟩
  obtain ⟨e1, u, e2⟩ := c.own a ha
  exact ⟨e1, u, h3 a u ha e2⟩
theorem kitAny_of {K : PySem.W.Frag} (d : D) : ∀ cs : List Nat, (∀ c ∈ cs, c < 6) → PySem.W.kitAny K (.type (tyD2 d)) (cs.map fun c => .type (tyN c)) = some (cs.any fun c => isC c d)
  | [], _ => kitAny_nil
  | c :: cs, h => by
    have ih := kitAny_of (K := K) d cs fun c' hc => h c' (List.mem_cons_of_mem _ hc)
    have hk := kit_ty (K := K) (kitB_isC (h c (List.mem_cons_self ..)) d)
    rw [List.map_cons, List.any_cons]
    refine kitAny_cons hk (fun e => ?_) (fun e => ?_)
    · rw [e]; exact ih
    · rw [e]; rfl
theorem paired_ty : ∀ cs : List Nat, Paired ClsV (cs.map fun c => V.ty (tyN c)) (cs.map fun c => .type (tyN c))
  | [] => .nil
  | c :: cs => .cons (.ty _) (paired_ty cs)
section
variable {K : PySem.W.Frag} {xm : XM} {te : TE} {fa : Ev → R T}
theorem we_isi1 {c : Nat} (hc : c < 6) (ha : WE K xm te fa) : WE K xm (tIsi1 K (tyN c) te) (dIsi [c] fa) := by
  intro σ τ H ev hl hr0
  refine Res.bind (k := fun x H1 Q => rIsi K [x, .ty (tyN c)] H1 Q) (ha σ τ H ev hl hr0) fun t v ev1 H1 _ hl1 hr1 ho1 => ?_
  cases e : t.rd ev1 with
  | none => trivial
  | some d =>
    refine Res.scal hl1 hr1 (v := .bl ([c].any fun c => isC c d)) (fun _ => rfl) fun Q q => ?_
    obtain ⟨F, A, cc⟩ := id hr1
    refine ⟨v, .ty (tyN c), .type (tyD2 d), .type (tyN c), isC c d, rfl, .ty _, tyx_of cc.sub (rd_ef cc (mem_ent σ v t τ) ho1 e), kit_ty (kitB_isC hc d), ?_⟩
    have : ([c].any fun c => isC c d) = isC c d := by simp
    rw [this] at q
    exact q
/-- isinstance(e, (T, ..)) -/
def tIsiN (K : PySem.W.Frag) (cs : List Nat) (te : TE) : TE := fun σ H Q => te σ H fun x H1 => cs.length ≤ sizeLine ∧ ∀ p, H1 p = none → rIsiT K [x, .ref p] (upd H1 p (.tup (cs.map fun c => V.ty (tyN c)))) Q
theorem we_isiN {cs : List Nat} (hz : cs.length ≤ sizeLine) (hc : ∀ c ∈ cs, c < 6) (ha : WE K xm te fa) : WE K xm (tIsiN K cs te) (dIsi cs fa) := by
  intro σ τ H ev hl hr0
  refine Res.bind (k := fun x H1 Q => cs.length ≤ sizeLine ∧ ∀ p, H1 p = none → rIsiT K [x, .ref p] (upd H1 p (.tup (cs.map fun c => V.ty (tyN c)))) Q) (ha σ τ H ev hl hr0) fun t v ev1 H1 _ hl1 hr1 ho1 => ?_
  cases e : t.rd ev1 with
  | none => trivial
  | some d =>
    intro Q q
    refine ⟨hz, fun p hp => ?_⟩
    have hr2 := hr1.lay (o := .tup (cs.map fun c => V.ty (tyN c))) hp
    obtain ⟨F, A, cc⟩ := id hr2
    refine ⟨v, p, cs.map fun c => V.ty (tyN c), .type (tyD2 d), cs.map fun c => .type (tyN c), cs.any fun c => isC c d, rfl, upd_same, paired_ty cs, tyx_of cc.sub (rd_ef cc (mem_ent σ v t τ) ho1 e), kitAny_of d cs hc, ?_⟩
    exact q (.bl (cs.any fun c => isC c d)) _ hl1 (Rp.new cc (.same (d := .bl (cs.any fun c => isC c d)) rfl)|>.perm (List.perm_middle).symm) trivial
end
section
variable {X : Cx} {xm : XM} {e : Expr} {fa : Ev → R T} {p p1 p2 p3 pos : Pos} {k : Nat}
theorem px_isi1 {T : Str} (c : Nat) (hc : c < 6) (hg : Gl X "isinstance") (hm : X.mg "isinstance" = none) (hgT : Gl X T) (hmT : X.mg T = none) (hvT : bootBuiltins T = some (.type (tyN c))) (he : PX X xm e fa) (hn : T ≠ "__name__" := by decide) (hd : (T == ("__debug__" : Str)) = false := by decide)
    (h1 : starEach [e, .Name T p1] X.env = (false, eval e X.env) :: starEach [.Name T p1] X.env := by rfl) (h2 : (backTo pos (starEach [.Name T p1] X.env)).any (·.1) = false := by rfl) :
    PX X xm (.Call (.Name "isinstance" p) [e, .Name T p1] [] pos) (dIsi [c] fa) :=
  PX.of (pe_callB call_isi hg hm rfl (pa_cons he (pa_cons (pe_bltn (v := .ty (tyN c)) hgT hmT hvT rfl hn hd) pa_nil) h1) (by decide) (by decide) h1 h2) (we_isi1 hc (we_can _))
theorem px_isi2 {T U : Str} (c c' : Nat) (hc : c < 6) (hc' : c' < 6) (hg : Gl X "isinstance") (hm : X.mg "isinstance" = none) (hgT : Gl X T) (hmT : X.mg T = none) (hvT : bootBuiltins T = some (.type (tyN c))) (hgU : Gl X U) (hmU : X.mg U = none) (hvU : bootBuiltins U = some (.type (tyN c'))) (he : PX X xm e fa)
    (hn : T ≠ "__name__" := by decide) (hd : (T == ("__debug__" : Str)) = false := by decide) (hn' : U ≠ "__name__" := by decide) (hd' : (U == ("__debug__" : Str)) = false := by decide)
    (h0 : starEach [.Name T p1, .Name U p2] X.env = (false, eval (.Name T p1) X.env) :: starEach [.Name U p2] X.env := by rfl)
    (h1 : starEach [e, .Tuple [.Name T p1, .Name U p2] k p3] X.env = (false, eval e X.env) :: starEach [.Tuple [.Name T p1, .Name U p2] k p3] X.env := by rfl) (h2 : (backTo pos (starEach [.Tuple [.Name T p1, .Name U p2] k p3] X.env)).any (·.1) = false := by rfl) :
    PX X xm (.Call (.Name "isinstance" p) [e, .Tuple [.Name T p1, .Name U p2] k p3] [] pos) (dIsi [c, c'] fa) :=
  PX.of (pe_callB call_isiT hg hm rfl (pa_cons he (pa_cons (pe_tup (pa_cons (pe_bltn (v := .ty (tyN c)) hgT hmT hvT rfl hn hd) (pa_cons (pe_bltn (v := .ty (tyN c')) hgU hmU hvU rfl hn' hd') pa_nil) h0)) pa_nil) h1) (by decide) (by decide) h1 h2)
    (we_isiN (cs := [c, c']) (by show 2 ≤ sizeLine; decide) (by intro x hx; rcases List.mem_cons.mp hx with rfl | hx; exact hc; rcases List.mem_cons.mp hx with rfl | hx; exact hc'; cases hx) (we_can _))
end

/-! ### places and slices -/
def ixD : D → D → Option (Nat × D)
  | .lst ds, .int i => (atI ds i).map fun d => (0, d)
  | .fls ds, .int i => (atI ds i).map fun d => (0, d)
  | .tup ds, .int i => (atI ds i).map fun d => (0, d)
  | .str s, .int i => if s.length ≤ LL then (atI s i).map fun c => (0, .str [c]) else none
  | _, _ => none
theorem rzs_at {K : PySem.W.Frag} {F : Hp} {xs : List V} {ds : List D} {i : Int} {d : D} (h : Rzs K F xs ds) (e : atI ds i = some d) : ∃ x, atI xs i = some x ∧ Rz K F x d := by
  unfold atI at e ⊢
  rw [h.len]
  cases ej : ixN ds.length i with
  | none => rw [ej] at e; cases e
  | some j => rw [ej] at e; exact h.get e
section
variable {X : Cx}
theorem o_ix : IxR X (rIx X.K) ∧ Op2 X.K (rIx X.K) ixD := by
  refine ⟨ix_seq, ?_⟩
  intro F H x y d1 d2 k d hf h1 h2 hd Q q
  unfold ixD at hd
  have seq : ∀ {ds : List D} {i : Int}, (atI ds i).map (fun d => ((0 : Nat), d)) = some (k, d) → atI ds i = some d ∧ k = 0 := fun {ds i} e => by
    cases e2 : atI ds i with
    | none => rw [e2] at e; cases e
    | some z => rw [e2] at e; cases e; exact ⟨rfl, rfl⟩
  split at hd
  · obtain ⟨e, rfl⟩ := seq hd
    obtain ⟨a, xs, rfl, g1, g2⟩ := ef_seq hf (.inl rfl) h1
    obtain ⟨v, e2, g3⟩ := rzs_at g2 e
    exact .inl ⟨a, xs, _, v, rfl, h2, g1, e2, q _ _ (.same g3)⟩
  · obtain ⟨e, rfl⟩ := seq hd
    obtain ⟨a, xs, rfl, g1, g2⟩ := ef_seq hf (.inr rfl) h1
    obtain ⟨v, e2, g3⟩ := rzs_at g2 e
    exact .inl ⟨a, xs, _, v, rfl, h2, g1, e2, q _ _ (.same g3)⟩
  · obtain ⟨e, rfl⟩ := seq hd
    obtain ⟨a, xs, rfl, g1, g2⟩ := ef_tup hf h1
    obtain ⟨v, e2, g3⟩ := rzs_at g2 e
    exact .inr (.inl ⟨a, xs, _, v, rfl, h2, g1, e2, q _ _ (.same g3)⟩)
  · split at hd
    case isFalse => cases hd
    rename_i s i hz
    cases e2 : atI s i with
    | none => rw [e2] at hd; cases hd
    | some c =>
      rw [e2] at hd
      cases hd
      exact .inr (.inr ⟨_, i, c, h1, h2, by rw [line_eq]; simpa [Str.length] using hz, by simpa using e2, q _ _ (.same rfl)⟩)
  · cases hd
end
def cut {α : Type} (xs : List α) (lo hi : Option Int) : List α := (xs.drop (HT.sIx xs.length 0 lo)).take (HT.sIx xs.length xs.length hi - HT.sIx xs.length 0 lo)
def slD : D → Option Int → Option Int → Option (Nat × D)
  | .lst ds, lo, hi => some (1, .lst (cut ds lo hi))
  | .fls ds, lo, hi => some (1, .lst (cut ds lo hi))
  | .tup ds, lo, hi => some (0, .tup (cut ds lo hi))
  | .str s, lo, hi => if s.length ≤ LL then some (0, .str (cut s lo hi)) else none
  | _, _, _ => none
theorem rzs_cut {K : PySem.W.Frag} {F : Hp} {xs : List V} {ds : List D} {lo hi : Option Int} (h : Rzs K F xs ds) : Rzs K F (cutV xs lo hi) (cut ds lo hi) := by
  unfold cutV cut
  rw [h.len]
  exact (h.drop _).take _
theorem cut_all {α : Type} {xs : List α} {lo hi : Option Int} (h : HT.sIx xs.length 0 lo = 0 ∧ HT.sIx xs.length xs.length hi = xs.length) : cut xs lo hi = xs := by
  unfold cut
  rw [h.1, h.2]
  simp
abbrev rSlD (K : PySem.W.Frag) : V → Option Int → Option Int → Hp → VK → Prop := fun x lo hi H Q => rSlL K x lo hi H Q ∨ rSlA K x lo hi H Q ∨ rSlS x lo hi H Q
section
variable {X : Cx}
theorem o_sl : SlR X (rSlD X.K) ∧ OpS X.K (rSlD X.K) slD := by
  refine ⟨sl_list.or (sl_tupA.or sl_str), ?_⟩
  intro F H x lo hi d1 k d hf h1 hd Q q
  unfold slD at hd
  split at hd
  · cases hd
    obtain ⟨a, xs, rfl, g1, g2⟩ := ef_seq hf (.inl rfl) h1
    exact .inl ⟨a, xs, rfl, g1, fun p hp => q _ _ (.lst hp (rzs_cut g2))⟩
  · cases hd
    obtain ⟨a, xs, rfl, g1, g2⟩ := ef_seq hf (.inr rfl) h1
    exact .inl ⟨a, xs, rfl, g1, fun p hp => q _ _ (.lst hp (rzs_cut g2))⟩
  · cases hd
    rename_i ds
    obtain ⟨a, xs, rfl, g1, g2⟩ := id h1
    refine .inr (.inl ⟨a, xs, rfl, sqT_le hf g1, fun hw => q _ _ (.same ?_), fun _ p hp => q _ _ (.tup hp (rzs_cut g2))⟩)
    rw [cut_all (by rw [← g2.len]; exact hw)]
    exact ⟨a, xs, rfl, g1, g2⟩
  · split at hd
    case isFalse => cases hd
    rename_i s hz
    cases hd
    refine .inr (.inr ⟨_, h1, by rw [line_eq]; simpa [Str.length] using hz, q _ _ (.same ?_)⟩)
    show V.str (cutS _ _ _) = V.str _
    unfold cutS cut
    simp [Str.length]
  · cases hd
end

/-! ### z[::-1] -/
def revD : D → Option (Nat × D)
  | .lst ds => some (1, .lst ds.reverse)
  | .fls ds => some (1, .lst ds.reverse)
  | .str s => if s.length ≤ LL then some (0, .str s.reverse) else none
  | _ => none
def tRevS (te : TE) : TE := fun σ H Q => te σ H fun x H1 => ∃ z : Str, x = .str z ∧ z.length ≤ sizeLine ∧ Q (.str ⟨z.cps.toList.reverse.toArray⟩) H1
section
variable {X : Cx} {xm : XM}
theorem str_rev_pick (z : Str) : (((Builtin.Str.strSliceIndices none none (-1) z.length).filterMap (z.cps[·]?))) = z.cps.toList.reverse := by
  have e : Builtin.Str.strSliceIndices none none (-1) z.length = (List.range z.length).reverse := by
    have h := PySem.W.krv_sliceRange z.length
    rw [PySem.W.krv_range] at h
    rw [← h]
    rfl
  rw [e, List.filterMap_reverse]
  exact congrArg List.reverse (PySem.W.krv_all z.cps)
theorem pe_revS {e : Expr} {te : TE} {k : Nat} {p1 p2 p3 pos : Pos} (he : PE X e te) : PE X (.Subscript e (.Slice none none (some (.UnaryOp .USub (.Constant (.int 1) k p1) p2)) p3) pos) (tRevS te) := by
  refine ⟨fun pins s σ H Q I h => ?_⟩
  refine Subscript_ (thn (he.run pins s σ H _ I h) fun v s1 ⟨x, H1, I1, r1, q1⟩ => ?_)
  obtain ⟨z, ex, hz, q⟩ := q1
  subst ex
  obtain ⟨t, rfl⟩ := r1
  have hst : PO X (some (.UnaryOp .USub (.Constant (.int 1) k p1) p2)) (tPart (tUn (rU fun i => .int (-i)) (tC (.int 1)))) := po_some (pe_un un_neg pe_int)
  refine wpAny_Slice (thn (po_none.run pins s1 σ H1 (fun o H2 => o = none ∧ H2 = H1) I1 ⟨rfl, rfl⟩) fun vl s2 ⟨l, H2, I2, pl, el, e2⟩ => ?_)
  subst el e2
  refine thn (po_none.run pins s2 σ H2 (fun o H3 => o = none ∧ H3 = H2) I2 ⟨rfl, rfl⟩) fun vu s3 ⟨u, H3, I3, pu, eu, e3⟩ => ?_
  subst eu e3
  refine thn (hst.run pins s3 σ H3 (fun o H4 => o = some (-1) ∧ H4 = H3) I3 ⟨1, rfl, -1, rfl, rfl, rfl⟩) fun vs s4 ⟨o, H4, I4, ps, eo, e4⟩ => ?_
  subst eo e4
  obtain ⟨l, rfl, hl⟩ := IsPart.raw pl
  obtain ⟨u, rfl, hu⟩ := IsPart.raw pu
  obtain ⟨st, rfl, hst'⟩ := IsPart.raw ps
  have I5 : Inv X pins σ H4 { s4 with heap := s4.heap.push { cls := .type "slice", data := .fields #[partValue l, partValue u, partValue st] } } := I4.kept (t' := s4.toks) fun b ob q => Heap.get?_push_of_some _ q
  show wpAny (model X.prog X.w) X.A (subscriptTail e (.Slice none none (some (.UnaryOp .USub (.Constant (.int 1) k p1) p2)) p3) (.str z t) (.ref s4.heap.objs.size)) (EP X pins σ Q) X.xe { s4 with heap := s4.heap.push { cls := .type "slice", data := .fields #[partValue l, partValue u, partValue st] } }
  refine tail_any (ops := [.str z t, .ref s4.heap.objs.size]) (typeIs_str _ _ _) PySem.F.slot_str_getitem.lookup ?_ (by with_unfolding_all rfl)
  refine wpAny_getItem_str_slice (l := l) (u := u) (st := st) ⟨_, Heap.get?_push_size _ rfl, rfl, rfl⟩ (by rw [hst']; rfl) ?_
  have e1 : ((st.map (·.1)).getD 1 == 1) = false := by rw [hst']; rfl
  unfold sliceMade
  rw [e1]
  have e2 : (slicePicked z l u st).filterMap (z.cps[·]?) = z.cps.toList.reverse := by
    unfold slicePicked
    rw [hl, hu, hst']
    exact str_rev_pick z
  rw [e2]
  refine ⟨?_, ⟨.str ⟨z.cps.toList.reverse.toArray⟩, H4, I5.tok _, ⟨_, rfl⟩, q⟩⟩
  show z.cps.toList.reverse.toArray.size ≤ sizeLine
  rw [List.size_toArray, List.length_reverse, Array.length_toList]
  exact hz
end
section
variable {K : PySem.W.Frag} {xm : XM} {ta : TE} {fa : Ev → R T}
theorem we_un2 {r r' : V → Hp → VK → Prop} {g g' f : D → Option (Nat × D)} (h1 : WE K xm (tUn r ta) (dUn g fa)) (h2 : WE K xm (tUn r' ta) (dUn g' fa)) (hf : ∀ d, f d = none ∨ f d = g d ∨ f d = g' d) :
    WE K xm (fun σ H Q => tUn r ta σ H Q ∨ tUn r' ta σ H Q) (dUn f fa) := by
  intro σ τ H ev hl hr0
  have q1 := (h1 σ τ H ev hl hr0).imp (c' := fun Q => tUn r ta σ H Q ∨ tUn r' ta σ H Q) fun Q => .inl
  have q2 := (h2 σ τ H ev hl hr0).imp (c' := fun Q => tUn r ta σ H Q ∨ tUn r' ta σ H Q) fun Q => .inr
  unfold dUn at q1 q2 ⊢
  cases e : fa ev with
  | bad => trivial
  | exc n d ev1 => rw [e] at q1; exact q1
  | ok t ev1 =>
    rw [e] at q1 q2
    simp only [R.bind_ok] at q1 q2 ⊢
    cases e2 : t.rd ev1 with
    | none => trivial
    | some d =>
      rw [e2] at q1 q2
      rcases hf d with hd | hd | hd
      · show Res K xm iT σ τ (out (f d) ev1) _
        rw [hd]; trivial
      · show Res K xm iT σ τ (out (f d) ev1) _
        rw [hd]; exact q1
      · show Res K xm iT σ τ (out (f d) ev1) _
        rw [hd]; exact q2
end
def revL1 : D → Option (Nat × D)
  | .lst ds => some (1, .lst ds.reverse)
  | .fls ds => some (1, .lst ds.reverse)
  | _ => none
def revS1 : D → Option (Nat × D)
  | .str s => if s.length ≤ LL then some (0, .str s.reverse) else none
  | _ => none
section
variable {X : Cx} {xm : XM}
theorem px_rev {e : Expr} {fa : Ev → R T} {k : Nat} {p1 p2 p3 pos : Pos} (he : PX X xm e fa) : PX X xm (.Subscript e (.Slice none none (some (.UnaryOp .USub (.Constant (.int 1) k p1) p2)) p3) pos) (dUn revD fa) := by
  refine PX.of (pe_or (pe_revL he) (pe_revS he)) (we_un2 (r := fun x H1 Q => ∃ a xs, x = .ref a ∧ SqL X.K H1 a xs ∧ ∀ p, H1 p = none → Q (.ref p) (upd H1 p (.lst xs.reverse))) (r' := fun x H1 Q => ∃ z : Str, x = .str z ∧ z.length ≤ sizeLine ∧ Q (.str ⟨z.cps.toList.reverse.toArray⟩) H1) (we_un (g := revL1) ?_ (we_can _)) (we_un (g := revS1) ?_ (we_can _)) ?_)
  · intro F H x d1 k d hf h1 hd Q q
    unfold revL1 at hd
    split at hd
    · cases hd
      obtain ⟨a, xs, rfl, g1, g2⟩ := ef_seq hf (.inl rfl) h1
      exact ⟨a, xs, rfl, g1, fun p hp => q _ _ (.lst hp g2.reverse)⟩
    · cases hd
      obtain ⟨a, xs, rfl, g1, g2⟩ := ef_seq hf (.inr rfl) h1
      exact ⟨a, xs, rfl, g1, fun p hp => q _ _ (.lst hp g2.reverse)⟩
    · cases hd
  · intro F H x d1 k d hf h1 hd Q q
    unfold revS1 at hd
    split at hd
    · split at hd
      case isFalse => cases hd
      rename_i s hz
      cases hd
      exact ⟨_, h1, by rw [line_eq]; simpa [Str.length] using hz, q _ _ (.same (by show V.str _ = V.str _; simp))⟩
    · cases hd
  · intro d
    cases d with
    | lst ds => exact .inr (.inl rfl)
    | fls ds => exact .inr (.inl rfl)
    | str s => exact .inr (.inr rfl)
    | _ => exact .inl rfl
end
end DN

set_option Elab.async false
set_option linter.all false
set_option maxRecDepth 100000
set_option maxHeartbeats 1000000
namespace DN
open PySem PySem.Spec PyProof.Rows L2

/-! ### lists of one kind -/
def blsL : List D → Option (List Bool)
  | [] => some []
  | .bl b :: r => (blsL r).map (b :: ·)
  | _ :: _ => none
def intsL : List D → Option (List Int)
  | [] => some []
  | .int b :: r => (intsL r).map (b :: ·)
  | _ :: _ => none
def strsL : List D → Option (List (List Nat))
  | [] => some []
  | .str b :: r => (strsL r).map (b :: ·)
  | _ :: _ => none
section
variable {K : PySem.W.Frag} {F H : Hp}
theorem rzs_bls : ∀ {ds : List D} {xs : List V} {bs : List Bool}, Rzs K F xs ds → blsL ds = some bs → xs = bs.map V.bl
  | [], xs, bs, h, e => by cases e; exact h
  | .bl b :: r, xs, bs, h, e => by
    obtain ⟨x, t, rfl, h1, h2⟩ := h
    have e : (blsL r).map (b :: ·) = some bs := e
    cases e2 : blsL r with
    | none => rw [e2] at e; cases e
    | some cs =>
      rw [e2] at e; cases e
      have h1 : x = .bl b := h1
      rw [h1, rzs_bls h2 e2]; rfl
  | .non :: r, xs, bs, h, e | .int _ :: r, xs, bs, h, e | .str _ :: r, xs, bs, h, e | .tup _ :: r, xs, bs, h, e | .lst _ :: r, xs, bs, h, e | .fls _ :: r, xs, bs, h, e | .dic _ _ :: r, xs, bs, h, e => by cases e
theorem rzs_ints : ∀ {ds : List D} {xs : List V} {bs : List Int}, Rzs K F xs ds → intsL ds = some bs → xs = bs.map V.int
  | [], xs, bs, h, e => by cases e; exact h
  | .int b :: r, xs, bs, h, e => by
    obtain ⟨x, t, rfl, h1, h2⟩ := h
    have e : (intsL r).map (b :: ·) = some bs := e
    cases e2 : intsL r with
    | none => rw [e2] at e; cases e
    | some cs =>
      rw [e2] at e; cases e
      have h1 : x = .int b := h1
      rw [h1, rzs_ints h2 e2]; rfl
  | .non :: r, xs, bs, h, e | .bl _ :: r, xs, bs, h, e | .str _ :: r, xs, bs, h, e | .tup _ :: r, xs, bs, h, e | .lst _ :: r, xs, bs, h, e | .fls _ :: r, xs, bs, h, e | .dic _ _ :: r, xs, bs, h, e => by cases e
theorem rzs_strs : ∀ {ds : List D} {xs : List V} {bs : List (List Nat)}, Rzs K F xs ds → strsL ds = some bs → xs = (bs.map fun s => (⟨s.toArray⟩ : Str)).map V.str
  | [], xs, bs, h, e => by cases e; exact h
  | .str b :: r, xs, bs, h, e => by
    obtain ⟨x, t, rfl, h1, h2⟩ := h
    have e : (strsL r).map (b :: ·) = some bs := e
    cases e2 : strsL r with
    | none => rw [e2] at e; cases e
    | some cs =>
      rw [e2] at e; cases e
      have h1 : x = .str _ := h1
      rw [h1, rzs_strs h2 e2]; rfl
  | .non :: r, xs, bs, h, e | .bl _ :: r, xs, bs, h, e | .int _ :: r, xs, bs, h, e | .tup _ :: r, xs, bs, h, e | .lst _ :: r, xs, bs, h, e | .fls _ :: r, xs, bs, h, e | .dic _ _ :: r, xs, bs, h, e => by cases e
theorem rzs_chars : ∀ (s : List Nat), Rzs K F (s.map fun c => V.str ⟨#[c]⟩) (s.map fun c => .str [c])
  | [] => rfl
  | c :: s => ⟨_, _, rfl, rfl, rzs_chars s⟩
theorem OpN.two {r : List V → Hp → VK → Prop} {f : List D → Option (Nat × D)} (h1 : ∀ ds k d, f ds = some (k, d) → ∃ e e', ds = [e, e']) (h : ∀ F H x y e e' k d, Le F H → EFv K F H x e → EFv K F H y e' → f [e, e'] = some (k, d) → ∀ Q : VK, (∀ v H', New K F H v H' k d → Q v H') → r [x, y] H Q) : OpN K r f := by
  intro F H xs ds k d hf he hd Q q
  obtain ⟨e, e', rfl⟩ := h1 ds k d hd
  match xs, he with
  | [x, y], he => exact h F H x y e e' k d hf he.1 he.2.1 hd Q q
theorem OpM.zero {r : V → List V → Hp → VK → Prop} {f : D → List D → Option (Nat × D)} (h1 : ∀ d0 ds k d, f d0 ds = some (k, d) → ds = []) (h : ∀ F H x e k d, Le F H → EFv K F H x e → f e [] = some (k, d) → ∀ Q : VK, (∀ v H', New K F H v H' k d → Q v H') → r x [] H Q) : OpM K r f := by
  intro F H x xs d0 ds k d hf h0 he hd Q q
  obtain rfl := h1 d0 ds k d hd
  match xs, he with
  | [], _ => exact h F H x d0 k d hf h0 hd Q q
theorem OpM.one {r : V → List V → Hp → VK → Prop} {f : D → List D → Option (Nat × D)} (h1 : ∀ d0 ds k d, f d0 ds = some (k, d) → ∃ e, ds = [e]) (h : ∀ F H x y e e' k d, Le F H → EFv K F H x e → EFv K F H y e' → f e [e'] = some (k, d) → ∀ Q : VK, (∀ v H', New K F H v H' k d → Q v H') → r x [y] H Q) : OpM K r f := by
  intro F H x xs d0 ds k d hf h0 he hd Q q
  obtain ⟨e, rfl⟩ := h1 d0 ds k d hd
  match xs, he with
  | [y], he => exact h F H x y d0 e k d hf h0 he.1 hd Q q
end

/-! ### built-in functions -/
def lenD : List D → Option (Nat × D)
  | [.str s] => if s.length ≤ LL then some (0, .int s.length) else none
  | [.lst ds] => some (0, .int ds.length)
  | [.fls ds] => some (0, .int ds.length)
  | [.tup ds] => some (0, .int ds.length)
  | _ => none
def intD : List D → Option (Nat × D)
  | [.int i] => some (0, .int i)
  | [.bl b] => some (0, .int (if b then 1 else 0))
  | _ => none
def absD : List D → Option (Nat × D)
  | [.int i] => some (0, .int (if i < 0 then -i else i))
  | _ => none
def max2D : List D → Option (Nat × D)
  | [.int i, .int j] => some (0, .int (if j > i then j else i))
  | _ => none
def min2D : List D → Option (Nat × D)
  | [.int i, .int j] => some (0, .int (if j < i then j else i))
  | _ => none
def allD : List D → Option (Nat × D)
  | [.lst ds] => (blsL ds).map fun bs => (0, .bl (bs.all id))
  | [.fls ds] => (blsL ds).map fun bs => (0, .bl (bs.all id))
  | _ => none
def anyD : List D → Option (Nat × D)
  | [.lst ds] => (blsL ds).map fun bs => (0, .bl (bs.any id))
  | [.fls ds] => (blsL ds).map fun bs => (0, .bl (bs.any id))
  | _ => none
def sumD : List D → Option (Nat × D)
  | [.lst ds] => (intsL ds).map fun bs => (0, .int bs.sum)
  | [.fls ds] => (intsL ds).map fun bs => (0, .int bs.sum)
  | _ => none
def maxI : List Int → Int
  | [] => 0
  | a :: r => r.foldl max a
def minI : List Int → Int
  | [] => 0
  | a :: r => r.foldl min a
def maxLD : List D → Option (Nat × D)
  | [.lst ds] => match intsL ds with
    | some (a :: r) => some (0, .int (maxI (a :: r)))
    | _ => none
  | _ => none
def minLD : List D → Option (Nat × D)
  | [.lst ds] => match intsL ds with
    | some (a :: r) => some (0, .int (minI (a :: r)))
    | _ => none
  | _ => none
def tupD : List D → Option (Nat × D)
  | [.lst ds] => some (0, .tup ds)
  | [.fls ds] => some (0, .tup ds)
  | [.tup ds] => some (0, .tup ds)
  | [.str s] => if s.length ≤ LL then some (0, .tup (s.map fun c => .str [c])) else none
  | _ => none
def listD : List D → Option (Nat × D)
  | [.lst ds] => some (1, .lst ds)
  | [.fls ds] => some (1, .lst ds)
  | [.tup ds] => some (1, .lst ds)
  | [.str s] => if s.length ≤ LL then some (1, .lst (s.map fun c => .str [c])) else none
  | _ => none
theorem foldl_max_spec : ∀ (r : List Int) (a : Int), r.foldl max a ∈ a :: r ∧ ∀ y ∈ a :: r, y ≤ r.foldl max a
  | [], a => ⟨List.mem_cons_self .., fun y hy => by rcases List.mem_cons.mp hy with rfl | hy; exact Int.le_refl _; cases hy⟩
  | b :: r, a => by
    obtain ⟨h1, h2⟩ := foldl_max_spec r (max a b)
    show (List.foldl max (max a b) r) ∈ _ ∧ _
    refine ⟨?_, fun y hy => ?_⟩
    · rcases List.mem_cons.mp h1 with e | e
      · rw [e]
        rcases Int.le_total a b with h | h
        · rw [Int.max_eq_right h]; exact List.mem_cons_of_mem _ (List.mem_cons_self ..)
        · rw [Int.max_eq_left h]; exact List.mem_cons_self ..
      · exact List.mem_cons_of_mem _ (List.mem_cons_of_mem _ e)
    · have h0 := h2 _ (List.mem_cons_self ..)
      show y ≤ List.foldl max (max a b) r
      rcases List.mem_cons.mp hy with rfl | hy
      · exact Int.le_trans (Int.le_max_left ..) h0
      · rcases List.mem_cons.mp hy with rfl | hy
        · exact Int.le_trans (Int.le_max_right ..) h0
        · exact h2 y (List.mem_cons_of_mem _ hy)
theorem foldl_min_spec : ∀ (r : List Int) (a : Int), r.foldl min a ∈ a :: r ∧ ∀ y ∈ a :: r, r.foldl min a ≤ y
  | [], a => ⟨List.mem_cons_self .., fun y hy => by rcases List.mem_cons.mp hy with rfl | hy; exact Int.le_refl _; cases hy⟩
  | b :: r, a => by
    obtain ⟨h1, h2⟩ := foldl_min_spec r (min a b)
    show (List.foldl min (min a b) r) ∈ _ ∧ _
    refine ⟨?_, fun y hy => ?_⟩
    · rcases List.mem_cons.mp h1 with e | e
      · rw [e]
        rcases Int.le_total a b with h | h
        · rw [Int.min_eq_left h]; exact List.mem_cons_self ..
        · rw [Int.min_eq_right h]; exact List.mem_cons_of_mem _ (List.mem_cons_self ..)
      · exact List.mem_cons_of_mem _ (List.mem_cons_of_mem _ e)
    · have h0 := h2 _ (List.mem_cons_self ..)
      show List.foldl min (min a b) r ≤ y
      rcases List.mem_cons.mp hy with rfl | hy
      · exact Int.le_trans h0 (Int.min_le_left ..)
      · rcases List.mem_cons.mp hy with rfl | hy
        · exact Int.le_trans h0 (Int.min_le_right ..)
        · exact h2 y (List.mem_cons_of_mem _ hy)
/-- what a list of signs is -/
theorem vals_signs {x : Str} {acc : Array Value} (h : ItemsOf (SignAt x) acc x.cps.size) : Vals (x.cps.toList.map fun c => V.str ⟨#[c]⟩) acc.toList := by
  have key : ∀ (n : Nat) (cs : List Nat) (vs : List Value), cs.length = n → vs.length = n → (∀ (j : Nat) (v : Value), vs[j]? = some v → ∃ c u, cs[j]? = some c ∧ v = .str ⟨#[c]⟩ u) → Vals (cs.map fun c => V.str ⟨#[c]⟩) vs := by
    intro n
    induction n with
    | zero =>
      intro cs vs h1 h2 _
      rw [List.length_eq_zero_iff.mp h1, List.length_eq_zero_iff.mp h2]
      exact .nil
    | succ n ih =>
      intro cs vs h1 h2 hg
      match cs, vs, h1, h2 with
      | c :: cs, v :: vs, h1, h2 =>
        obtain ⟨c', u, e1, e2⟩ := hg 0 v rfl
        have e1 : some c = some c' := by simpa using e1
        cases e1
        exact .cons ⟨u, e2⟩ (ih cs vs (by simpa using h1) (by simpa using h2) fun j w hw => by
          obtain ⟨c2, u2, e3, e4⟩ := hg (j + 1) w (by simpa using hw)
          exact ⟨c2, u2, by simpa using e3, e4⟩)
  exact key acc.size _ _ (by rw [Array.length_toList, h.1]) (by rw [Array.length_toList]) fun j v hj => by
    obtain ⟨c, u, e1, e2⟩ := h.2 j v (by simpa using hj)
    exact ⟨c, u, by simpa using e1, e2⟩
section
variable {X : Cx}
theorem call_tuple_s (hc : X.calm = true) : CallR X (.type "tuple") (fun xs H Q => ∃ z : Str, xs = [.str z] ∧ z.length ≤ sizeLine ∧ ∀ p, H p = none → Q (.ref p) (upd H p (.tup (z.cps.toList.map fun c => V.str ⟨#[c]⟩)))) := by
  intro pins s σ H xs us Q I r h
  obtain ⟨z, rfl, hz, q⟩ := h
  obtain ⟨u, rfl, t, rfl⟩ := vals1 r
  refine call_tuple_str (I.ok.hd hc) z t (fun h' tk acc hk ha => ?_) hz
  have I1 : Inv X pins σ H { s with heap := h' } := I.kept (t' := s.toks) hk
  have hv := vals_signs ha
  have hl : (z.cps.toList.map fun c => V.str ⟨#[c]⟩).length ≤ sizeLine := by rw [List.length_map, Array.length_toList]; exact hz
  refine ⟨.ref h'.objs.size, upd H h'.objs.size (.tup (z.cps.toList.map fun c => V.str ⟨#[c]⟩)), ?_, rfl, q _ (I1.hok.fresh (Nat.le_refl _))⟩
  exact I1.laid (t' := tk) (fun b o e => Heap.get?_push_of_some _ e) (Nat.le_refl _) (show ObjOk X.prog X.w _ _ _ (.tup _) from ⟨hl, acc.toList, hv, ⟨_, Heap.get?_push_size _ rfl, rfl, 0, by simp⟩⟩)
theorem call_list_s (hc : X.calm = true) : CallR X (.type "list") (fun xs H Q => ∃ z : Str, xs = [.str z] ∧ z.length ≤ sizeLine ∧ ∀ p, H p = none → Q (.ref p) (upd H p (.lst (z.cps.toList.map fun c => V.str ⟨#[c]⟩)))) := by
  intro pins s σ H xs us Q I r h
  obtain ⟨z, rfl, hz, q⟩ := h
  obtain ⟨u, rfl, t, rfl⟩ := vals1 r
  refine call_list_str (I.ok.hd hc) z t (fun h' tk acc c' hk hS ha => ?_) hz
  have hv := vals_signs ha
  have hl : (z.cps.toList.map fun c => V.str ⟨#[c]⟩).length ≤ sizeLine := by rw [List.length_map, Array.length_toList]; exact hz
  refine ⟨.ref s.heap.objs.size, upd H s.heap.objs.size (.lst (z.cps.toList.map fun c => V.str ⟨#[c]⟩)), ?_, rfl, q _ (I.hok.fresh (Nat.le_refl _))⟩
  exact I.laid (t' := tk) hk (Nat.le_refl _) (show ObjOk X.prog X.w _ _ _ (.lst _) from ⟨hl, acc.toList, c', hv, by simpa using hS⟩)

theorem o_len : CallR X (.builtin "len") (fun xs H Q => ∃ x n, xs = [x] ∧ LenV X.K x H n ∧ Q (.int n) H) ∧ OpN X.K (fun xs H Q => ∃ x n, xs = [x] ∧ LenV X.K x H n ∧ Q (.int n) H) lenD := by
  refine ⟨call_len, OpN.one (fun ds k d h => ?_) fun F H x e k d hf h1 hd Q q => ?_⟩
  · unfold lenD at h
    split at h <;> first | exact ⟨_, rfl⟩ | (cases h; done)
  · unfold lenD at hd
    split at hd
    · rename_i s heq
      cases heq
      split at hd
      case isFalse => cases hd
      rename_i hz
      cases hd
      have h1 : x = .str _ := h1
      subst h1
      exact ⟨_, s.length, rfl, ⟨by rw [line_eq]; simpa [Str.length] using hz, by simp [Str.length]⟩, q _ _ (.same rfl)⟩
    · rename_i ds heq; cases heq; cases hd
      obtain ⟨a, xs, rfl, g1, g2⟩ := ef_seq hf (.inl rfl) h1
      exact ⟨_, ds.length, rfl, .inl ⟨xs, g1, g2.len.symm⟩, q _ _ (.same rfl)⟩
    · rename_i ds heq; cases heq; cases hd
      obtain ⟨a, xs, rfl, g1, g2⟩ := ef_seq hf (.inr rfl) h1
      exact ⟨_, ds.length, rfl, .inl ⟨xs, g1, g2.len.symm⟩, q _ _ (.same rfl)⟩
    · rename_i ds heq; cases heq; cases hd
      obtain ⟨a, xs, rfl, g1, g2⟩ := ef_tup hf h1
      exact ⟨_, ds.length, rfl, .inr ⟨xs, g1, g2.len.symm⟩, q _ _ (.same rfl)⟩
    · cases hd
theorem o_int : CallR X (.type "int") (fun xs H Q => (∃ i, xs = [.int i] ∧ Q (.int i) H) ∨ ∃ k, xs = [.bl k] ∧ Q (.int (if k then 1 else 0)) H) ∧ OpN X.K (fun xs H Q => (∃ i, xs = [.int i] ∧ Q (.int i) H) ∨ ∃ k, xs = [.bl k] ∧ Q (.int (if k then 1 else 0)) H) intD := by
  refine ⟨call_int1, OpN.one (fun ds k d h => ?_) fun F H x e k d hf h1 hd Q q => ?_⟩
  · unfold intD at h
    split at h <;> first | exact ⟨_, rfl⟩ | (cases h; done)
  · unfold intD at hd
    split at hd
    · rename_i heq; cases heq; cases hd
      have h1 : x = .int _ := h1
      exact .inl ⟨_, by rw [h1], q _ _ (.same rfl)⟩
    · rename_i heq; cases heq; cases hd
      have h1 : x = .bl _ := h1
      exact .inr ⟨_, by rw [h1], q _ _ (.same rfl)⟩
    · cases hd
theorem o_abs : CallR X (.builtin "abs") (fun xs H Q => ∃ i, xs = [.int i] ∧ Q (.int (if i < 0 then -i else i)) H) ∧ OpN X.K (fun xs H Q => ∃ i, xs = [.int i] ∧ Q (.int (if i < 0 then -i else i)) H) absD := by
  refine ⟨call_abs, OpN.one (fun ds k d h => ?_) fun F H x e k d hf h1 hd Q q => ?_⟩
  · unfold absD at h
    split at h <;> first | exact ⟨_, rfl⟩ | (cases h; done)
  · unfold absD at hd
    split at hd
    · rename_i heq; cases heq; cases hd
      have h1 : x = .int _ := h1
      exact ⟨_, by rw [h1], q _ _ (.same rfl)⟩
    · cases hd
theorem o_max2 (hc : X.calm = true) : CallR X (.builtin "max") (fun xs H Q => ∃ i j, xs = [.int i, .int j] ∧ Q (.int (if j > i then j else i)) H) ∧ OpN X.K (fun xs H Q => ∃ i j, xs = [.int i, .int j] ∧ Q (.int (if j > i then j else i)) H) max2D := by
  refine ⟨call_max2 hc, OpN.two (fun ds k d h => ?_) fun F H x y e e' k d hf h1 h2 hd Q q => ?_⟩
  · unfold max2D at h
    split at h <;> first | exact ⟨_, _, rfl⟩ | (cases h; done)
  · unfold max2D at hd
    split at hd
    · rename_i heq; cases heq; cases hd
      have h1 : x = .int _ := h1
      have h2 : y = .int _ := h2
      exact ⟨_, _, by rw [h1, h2], q _ _ (.same rfl)⟩
    · cases hd
theorem o_min2 (hc : X.calm = true) : CallR X (.builtin "min") (fun xs H Q => ∃ i j, xs = [.int i, .int j] ∧ Q (.int (if j < i then j else i)) H) ∧ OpN X.K (fun xs H Q => ∃ i j, xs = [.int i, .int j] ∧ Q (.int (if j < i then j else i)) H) min2D := by
  refine ⟨call_min2 hc, OpN.two (fun ds k d h => ?_) fun F H x y e e' k d hf h1 h2 hd Q q => ?_⟩
  · unfold min2D at h
    split at h <;> first | exact ⟨_, _, rfl⟩ | (cases h; done)
  · unfold min2D at hd
    split at hd
    · rename_i heq; cases heq; cases hd
      have h1 : x = .int _ := h1
      have h2 : y = .int _ := h2
      exact ⟨_, _, by rw [h1, h2], q _ _ (.same rfl)⟩
    · cases hd
theorem seq_kind {α : Type} {K : PySem.W.Frag} {F H : Hp} {x : V} {d0 : D} {ds : List D} (hf : Le F H) (h0 : d0 = .lst ds ∨ d0 = .fls ds) (h1 : EFv K F H x d0) {f : List D → Option (List α)} {g : List α → List V} {bs : List α} (hfg : ∀ {ds : List D} {xs : List V} {bs : List α}, Rzs K F xs ds → f ds = some bs → xs = g bs) (e : f ds = some bs) :
    ∃ a, x = .ref a ∧ SqL K H a (g bs) := by
  obtain ⟨a, xs, rfl, g1, g2⟩ := ef_seq hf h0 h1
  have := hfg g2 e
  subst this
  exact ⟨a, rfl, g1⟩
theorem o_all (hc : X.calm = true) : CallR X (.builtin "all") (rAll X.K) ∧ OpN X.K (rAll X.K) allD := by
  refine ⟨cr_all hc, OpN.one (fun ds k d h => ?_) fun F H x e k d hf h1 hd Q q => ?_⟩
  · unfold allD at h
    split at h <;> first | exact ⟨_, rfl⟩ | (cases h; done)
  · have go : ∀ (ds : List D), e = .lst ds ∨ e = .fls ds → (blsL ds).map (fun bs => ((0 : Nat), D.bl (bs.all id))) = some (k, d) → rAll X.K [x] H Q := fun ds h0 hd => by
      cases e2 : blsL ds with
      | none => rw [e2] at hd; cases hd
      | some bs =>
        rw [e2] at hd; cases hd
        obtain ⟨a, rfl, g1⟩ := seq_kind (g := fun bs => bs.map V.bl) hf h0 h1 (fun a b => rzs_bls a b) e2
        exact ⟨a, bs, rfl, g1, q _ _ (.same rfl)⟩
    unfold allD at hd
    split at hd
    · rename_i heq; cases heq; exact go _ (.inl rfl) hd
    · rename_i heq; cases heq; exact go _ (.inr rfl) hd
    · cases hd
theorem o_any (hc : X.calm = true) : CallR X (.builtin "any") (rAny X.K) ∧ OpN X.K (rAny X.K) anyD := by
  refine ⟨cr_any hc, OpN.one (fun ds k d h => ?_) fun F H x e k d hf h1 hd Q q => ?_⟩
  · unfold anyD at h
    split at h <;> first | exact ⟨_, rfl⟩ | (cases h; done)
  · have go : ∀ (ds : List D), e = .lst ds ∨ e = .fls ds → (blsL ds).map (fun bs => ((0 : Nat), D.bl (bs.any id))) = some (k, d) → rAny X.K [x] H Q := fun ds h0 hd => by
      cases e2 : blsL ds with
      | none => rw [e2] at hd; cases hd
      | some bs =>
        rw [e2] at hd; cases hd
        obtain ⟨a, rfl, g1⟩ := seq_kind (g := fun bs => bs.map V.bl) hf h0 h1 (fun a b => rzs_bls a b) e2
        exact ⟨a, bs, rfl, g1, q _ _ (.same rfl)⟩
    unfold anyD at hd
    split at hd
    · rename_i heq; cases heq; exact go _ (.inl rfl) hd
    · rename_i heq; cases heq; exact go _ (.inr rfl) hd
    · cases hd
theorem o_sum (hc : X.calm = true) : CallR X (.builtin "sum") (rSum X.K) ∧ OpN X.K (rSum X.K) sumD := by
  refine ⟨cr_sum hc, OpN.one (fun ds k d h => ?_) fun F H x e k d hf h1 hd Q q => ?_⟩
  · unfold sumD at h
    split at h <;> first | exact ⟨_, rfl⟩ | (cases h; done)
  · have go : ∀ (ds : List D), e = .lst ds ∨ e = .fls ds → (intsL ds).map (fun bs => ((0 : Nat), D.int bs.sum)) = some (k, d) → rSum X.K [x] H Q := fun ds h0 hd => by
      cases e2 : intsL ds with
      | none => rw [e2] at hd; cases hd
      | some bs =>
        rw [e2] at hd; cases hd
        obtain ⟨a, rfl, g1⟩ := seq_kind (g := fun bs => bs.map V.int) hf h0 h1 (fun a b => rzs_ints a b) e2
        exact ⟨a, bs, rfl, g1, q _ _ (.same rfl)⟩
    unfold sumD at hd
    split at hd
    · rename_i heq; cases heq; exact go _ (.inl rfl) hd
    · rename_i heq; cases heq; exact go _ (.inr rfl) hd
    · cases hd
theorem o_maxL (hc : X.calm = true) : CallR X (.builtin "max") (rMax X.K) ∧ OpN X.K (rMax X.K) maxLD := by
  refine ⟨cr_max hc, OpN.one (fun ds k d h => ?_) fun F H x e k d hf h1 hd Q q => ?_⟩
  · unfold maxLD at h
    split at h <;> first | exact ⟨_, rfl⟩ | (cases h; done)
  · unfold maxLD at hd
    split at hd
    · rename_i ds heq; cases heq
      split at hd
      case h_2 => cases hd
      rename_i a r e2
      cases hd
      obtain ⟨l, rfl, g1⟩ := seq_kind (g := fun bs => bs.map V.int) hf (.inl rfl) h1 (fun a b => rzs_ints a b) e2
      refine ⟨l, a :: r, rfl, g1, Nat.succ_pos _, fun m h2 h3 => ?_⟩
      obtain ⟨s1, s2⟩ := foldl_max_spec r a
      have : m = maxI (a :: r) := Int.le_antisymm (s2 m h2) (h3 _ s1)
      rw [this]
      exact q _ _ (.same rfl)
    · cases hd
theorem o_minL (hc : X.calm = true) : CallR X (.builtin "min") (rMin X.K) ∧ OpN X.K (rMin X.K) minLD := by
  refine ⟨cr_min hc, OpN.one (fun ds k d h => ?_) fun F H x e k d hf h1 hd Q q => ?_⟩
  · unfold minLD at h
    split at h <;> first | exact ⟨_, rfl⟩ | (cases h; done)
  · unfold minLD at hd
    split at hd
    · rename_i ds heq; cases heq
      split at hd
      case h_2 => cases hd
      rename_i a r e2
      cases hd
      obtain ⟨l, rfl, g1⟩ := seq_kind (g := fun bs => bs.map V.int) hf (.inl rfl) h1 (fun a b => rzs_ints a b) e2
      refine ⟨l, a :: r, rfl, g1, Nat.succ_pos _, fun m h2 h3 => ?_⟩
      obtain ⟨s1, s2⟩ := foldl_min_spec r a
      have : m = minI (a :: r) := Int.le_antisymm (h3 _ s1) (s2 m h2)
      rw [this]
      exact q _ _ (.same rfl)
    · cases hd
abbrev rTupD (K : PySem.W.Frag) : List V → Hp → VK → Prop := fun xs H Q => (∃ p ys, xs = [.ref p] ∧ ((SqL K H p ys ∧ ∀ l, H l = none → Q (.ref l) (upd H l (.tup ys))) ∨ (SqT K H p ys ∧ Q (.ref p) H))) ∨ (∃ z : Str, xs = [.str z] ∧ z.length ≤ sizeLine ∧ ∀ p, H p = none → Q (.ref p) (upd H p (.tup (z.cps.toList.map fun c => V.str ⟨#[c]⟩))))
abbrev rListD1 (K : PySem.W.Frag) : List V → Hp → VK → Prop := fun xs H Q => (∃ p ys, xs = [.ref p] ∧ (SqL K H p ys ∨ SqT K H p ys) ∧ ∀ l, H l = none → Q (.ref l) (upd H l (.lst ys))) ∨ (∃ z : Str, xs = [.str z] ∧ z.length ≤ sizeLine ∧ ∀ p, H p = none → Q (.ref p) (upd H p (.lst (z.cps.toList.map fun c => V.str ⟨#[c]⟩))))
theorem o_tup (hc : X.calm = true) : CallR X (.type "tuple") (rTupD X.K) ∧ OpN X.K (rTupD X.K) tupD := by
  refine ⟨call_tuple_of.or (call_tuple_s hc), OpN.one (fun ds k d h => ?_) fun F H x e k d hf h1 hd Q q => ?_⟩
  · unfold tupD at h
    split at h <;> first | exact ⟨_, rfl⟩ | (cases h; done)
  · unfold tupD at hd
    split at hd
    · rename_i heq; cases heq; cases hd
      obtain ⟨a, xs, rfl, g1, g2⟩ := ef_seq hf (.inl rfl) h1
      exact .inl ⟨a, xs, rfl, .inl ⟨g1, fun p hp => q _ _ (.tup hp g2)⟩⟩
    · rename_i heq; cases heq; cases hd
      obtain ⟨a, xs, rfl, g1, g2⟩ := ef_seq hf (.inr rfl) h1
      exact .inl ⟨a, xs, rfl, .inl ⟨g1, fun p hp => q _ _ (.tup hp g2)⟩⟩
    · rename_i heq; cases heq; cases hd
      obtain ⟨a, xs, rfl, g1, g2⟩ := id h1
      exact .inl ⟨a, xs, rfl, .inr ⟨sqT_le hf g1, q _ _ (.same ⟨a, xs, rfl, g1, g2⟩)⟩⟩
    · rename_i s heq; cases heq
      split at hd
      case isFalse => cases hd
      rename_i hz
      cases hd
      have h1 : x = .str _ := h1
      exact .inr ⟨_, by rw [h1], by rw [line_eq]; simpa [Str.length] using hz, fun p hp => q _ _ (.tup hp (by simpa using rzs_chars s))⟩
    · cases hd
theorem o_list (hc : X.calm = true) : CallR X (.type "list") (rListD1 X.K) ∧ OpN X.K (rListD1 X.K) listD := by
  refine ⟨call_list_of.or (call_list_s hc), OpN.one (fun ds k d h => ?_) fun F H x e k d hf h1 hd Q q => ?_⟩
  · unfold listD at h
    split at h <;> first | exact ⟨_, rfl⟩ | (cases h; done)
  · unfold listD at hd
    split at hd
    · rename_i heq; cases heq; cases hd
      obtain ⟨a, xs, rfl, g1, g2⟩ := ef_seq hf (.inl rfl) h1
      exact .inl ⟨a, xs, rfl, .inl g1, fun p hp => q _ _ (.lst hp g2)⟩
    · rename_i heq; cases heq; cases hd
      obtain ⟨a, xs, rfl, g1, g2⟩ := ef_seq hf (.inr rfl) h1
      exact .inl ⟨a, xs, rfl, .inl g1, fun p hp => q _ _ (.lst hp g2)⟩
    · rename_i heq; cases heq; cases hd
      obtain ⟨a, xs, rfl, g1, g2⟩ := ef_tup hf h1
      exact .inl ⟨a, xs, rfl, .inr g1, fun p hp => q _ _ (.lst hp g2)⟩
    · rename_i s heq; cases heq
      split at hd
      case isFalse => cases hd
      rename_i hz
      cases hd
      have h1 : x = .str _ := h1
      exact .inr ⟨_, by rw [h1], by rw [line_eq]; simpa [Str.length] using hz, fun p hp => q _ _ (.lst hp (by simpa using rzs_chars s))⟩
    · cases hd
end
end DN

set_option Elab.async false
set_option linter.all false
set_option maxRecDepth 100000
set_option maxHeartbeats 1000000
namespace DN
open PySem PySem.Spec PyProof.Rows L2

/-! ### methods of str, over signs below 128 -/
abbrev SL : Nat := 5592405
def asc (s : List Nat) : Bool := s.all fun c => decide (c < 128)
def sw1 (c : Nat) : Nat := if 65 ≤ c ∧ c ≤ 90 then c + 32 else if 97 ≤ c ∧ c ≤ 122 then c - 32 else c
def isUp (c : Nat) : Bool := decide (65 ≤ c) && decide (c ≤ 90)
def isLo (c : Nat) : Bool := decide (97 ≤ c) && decide (c ≤ 122)
def lowD : D → List D → Option (Nat × D)
  | .str s, [] => if asc s = true ∧ s.length ≤ SL then some (0, .str (s.map lo1)) else none
  | _, _ => none
def uppD : D → List D → Option (Nat × D)
  | .str s, [] => if asc s = true ∧ s.length ≤ SL then some (0, .str (s.map up1)) else none
  | _, _ => none
def swcD : D → List D → Option (Nat × D)
  | .str s, [] => if asc s = true ∧ s.length ≤ SL then some (0, .str (s.map sw1)) else none
  | _, _ => none
def isupD : D → List D → Option (Nat × D)
  | .str s, [] => if asc s = true then some (0, .bl (s.any isUp && !s.any isLo)) else none
  | _, _ => none
def isloD : D → List D → Option (Nat × D)
  | .str s, [] => if asc s = true then some (0, .bl (s.any isLo && !s.any isUp)) else none
  | _, _ => none
def countD : D → List D → Option (Nat × D)
  | .str s, [.str [c]] => some (0, .int (s.count c))
  | _, _ => none
def indexD : D → List D → Option (Nat × D)
  | .str s, [.str [c]] => if c ∈ s then some (0, .int (s.idxOf c)) else none
  | _, _ => none
def joinS (a : List Nat) : List (List Nat) → List Nat
  | [] => []
  | y :: ys => y ++ (ys.map fun z => a ++ z).flatten
def joinD : D → List D → Option (Nat × D)
  | .str a, [.lst ds] => match strsL ds with
    | some ys => if (ys.map (·.length)).sum + ys.length * a.length ≤ LL then some (0, .str (joinS a ys)) else none
    | none => none
  | .str a, [.fls ds] => match strsL ds with
    | some ys => if (ys.map (·.length)).sum + ys.length * a.length ≤ LL then some (0, .str (joinS a ys)) else none
    | none => none
  | .str a, [.tup ds] => match strsL ds with
    | some ys => if (ys.map (·.length)).sum + ys.length * a.length ≤ LL then some (0, .str (joinS a ys)) else none
    | none => none
  | _, _ => none
theorem isUpper_asc : ∀ c, c < 128 → PySem.Unicode.isUpper c = isUp c := by decide +kernel
theorem isLower_asc : ∀ c, c < 128 → PySem.Unicode.isLower c = isLo c := by decide +kernel
theorem isTitle_asc : ∀ c, c < 128 → PySem.Unicode.isTitle c = false := by decide +kernel
theorem asc_mem {s : List Nat} (h : asc s = true) : ∀ c ∈ (⟨s.toArray⟩ : Str).cps.toList, c < 128 := fun c hc => by
  have h := List.all_eq_true.mp h c (by simpa using hc)
  simpa using h
theorem any_asc {s : List Nat} {f g : Nat → Bool} (h : asc s = true) (e : ∀ c, c < 128 → f c = g c) : s.any f = s.any g := by
  rw [Bool.eq_iff_iff, List.any_eq_true, List.any_eq_true]
  constructor
  · rintro ⟨c, hc, hf⟩
    exact ⟨c, hc, by rw [← e c (by have := List.all_eq_true.mp h c hc; simpa using this)]; exact hf⟩
  · rintro ⟨c, hc, hf⟩
    exact ⟨c, hc, by rw [e c (by have := List.all_eq_true.mp h c hc; simpa using this)]; exact hf⟩
theorem lower_eq {s : List Nat} (h : asc s = true) : Txt.lower ⟨s.toArray⟩ = ⟨(s.map lo1).toArray⟩ := by
  rw [lower_ascii (asc_mem h)]; simp
theorem upper_eq {s : List Nat} (h : asc s = true) : Txt.upper ⟨s.toArray⟩ = ⟨(s.map up1).toArray⟩ := by
  rw [upper_ascii (asc_mem h)]; simp
theorem swapcase_eq {s : List Nat} (h : asc s = true) : Txt.swapcase ⟨s.toArray⟩ = ⟨(s.map sw1).toArray⟩ := by
  have hA := asc_mem h
  unfold Txt.swapcase
  rw [placed_single _ _ sw1 fun i c hc => by
    have hc' : (⟨s.toArray⟩ : Str).cps[i]? = some c := by simpa using hc
    have hlt := hA c (List.mem_of_getElem? hc)
    rw [isUpper_asc c hlt, isLower_asc c hlt]
    unfold sw1 isUp isLo
    by_cases h1 : 65 ≤ c ∧ c ≤ 90
    · have : (decide (65 ≤ c) && decide (c ≤ 90)) = true := by simpa using h1
      rw [this, if_pos rfl, if_pos h1]
      unfold Unicode.lowerAt
      rw [hc']
      have hne : (c == 0x3A3) = false := by rw [beq_eq_false_iff_ne]; omega
      simp only [hne, Bool.false_and, Bool.false_eq_true, if_false]
      rw [lowerOf_ascii c hlt]
      unfold lo1
      rw [if_pos h1]
    · have : (decide (65 ≤ c) && decide (c ≤ 90)) = false := by
        rw [Bool.eq_false_iff]; intro z; exact h1 (by simpa using z)
      rw [this, if_neg Bool.false_ne_true, if_neg h1]
      by_cases h2 : 97 ≤ c ∧ c ≤ 122
      · have : (decide (97 ≤ c) && decide (c ≤ 122)) = true := by simpa using h2
        rw [this, if_pos rfl, if_pos h2, upperOf_ascii c hlt]
        unfold up1
        rw [if_pos h2]
      · have : (decide (97 ≤ c) && decide (c ≤ 122)) = false := by
          rw [Bool.eq_false_iff]; intro z; exact h2 (by simpa using z)
        rw [this, if_neg Bool.false_ne_true, if_neg h2]]
  simp
theorem isupper_eq {s : List Nat} (h : asc s = true) : Txt.isupper ⟨s.toArray⟩ = (s.any isUp && !s.any isLo) := by
  unfold Txt.isupper
  rw [show (⟨s.toArray⟩ : Str).cps.any PySem.Unicode.isUpper = s.any PySem.Unicode.isUpper by simp, show ((⟨s.toArray⟩ : Str).cps.any fun c => PySem.Unicode.isLower c || PySem.Unicode.isTitle c) = s.any fun c => PySem.Unicode.isLower c || PySem.Unicode.isTitle c by simp]
  rw [any_asc (f := PySem.Unicode.isUpper) h isUpper_asc, any_asc (f := fun c => PySem.Unicode.isLower c || PySem.Unicode.isTitle c) (g := isLo) h fun c hc => by rw [isLower_asc c hc, isTitle_asc c hc, Bool.or_false]]
theorem islower_eq {s : List Nat} (h : asc s = true) : Txt.islower ⟨s.toArray⟩ = (s.any isLo && !s.any isUp) := by
  unfold Txt.islower
  rw [show (⟨s.toArray⟩ : Str).cps.any PySem.Unicode.isLower = s.any PySem.Unicode.isLower by simp, show ((⟨s.toArray⟩ : Str).cps.any fun c => PySem.Unicode.isUpper c || PySem.Unicode.isTitle c) = s.any fun c => PySem.Unicode.isUpper c || PySem.Unicode.isTitle c by simp]
  rw [any_asc (f := PySem.Unicode.isLower) h isLower_asc, any_asc (f := fun c => PySem.Unicode.isUpper c || PySem.Unicode.isTitle c) (g := isUp) h fun c hc => by rw [isUpper_asc c hc, isTitle_asc c hc, Bool.or_false]]
/-! ### one sign in a text: how often, where first -/
theorem occ_one {x : Str} {c : Nat} {hi lim a : Nat} (hh : hi = x.length) (f : Array Nat) (free : Nat) (h1 : free ≤ a) (h2 : f.size < lim) :
    StrLaws.occBody x ⟨#[c]⟩ hi lim a (f, free) = if x.cps.toList[a]? = some c then pure (ForInStep.yield (f.push a, a + 1)) else pure (ForInStep.yield (f, free)) := by
  subst hh
  unfold StrLaws.occBody
  have hs := StrLaws.subAt_one x c a
  by_cases hc : x.cps.toList[a]? = some c
  · obtain ⟨g1, g2⟩ := hs.mpr hc
    rw [if_pos hc, if_pos ⟨⟨⟨h2, h1⟩, g1⟩, g2⟩]
    rfl
  · rw [if_neg hc, if_neg (fun z => hc (hs.mp ⟨z.1.2, z.2⟩))]
theorem drop_cons {α : Type} {l : List α} {a : Nat} {x : α} (h : l[a]? = some x) : l.drop a = x :: l.drop (a + 1) := by
  obtain ⟨h1, h2⟩ := List.getElem?_eq_some_iff.mp h
  rw [← h2]
  exact List.drop_eq_getElem_cons h1
theorem occ_cnt (x : Str) (c : Nat) : ∀ (n a : Nat) (f : Array Nat) (free : Nat), free ≤ a → f.size ≤ a → a + n ≤ x.length + 1 →
    (forIn (List.range' a n) (f, free) (StrLaws.occBody x ⟨#[c]⟩ x.length (x.length + 1))).run.fst.size = f.size + ((x.cps.toList.drop a).take n).count c
  | 0, a, f, free, _, _, _ => by simp
  | n + 1, a, f, free, h1, h2, h3 => by
    rw [List.range'_succ, List.forIn_cons, occ_one rfl f free h1 (by omega)]
    have hl : x.length = x.cps.toList.length := by simp [Str.length]
    cases e : x.cps.toList[a]? with
    | none =>
      have hd : x.cps.toList.drop a = [] := List.drop_eq_nil_of_le (List.getElem?_eq_none_iff.mp e)
      have hd1 : x.cps.toList.drop (a + 1) = [] := List.drop_eq_nil_of_le (by have := List.getElem?_eq_none_iff.mp e; omega)
      rw [if_neg (by intro z; cases z)]
      have ih := occ_cnt x c n (a + 1) f free (by omega) (by omega) (by omega)
      rw [hd1] at ih
      rw [hd]
      simpa using ih
    | some b =>
      rw [drop_cons e, List.take_succ_cons, List.count_cons]
      by_cases hb : b = c
      · subst hb
        rw [if_pos rfl]
        have ih := occ_cnt x b n (a + 1) (f.push a) (a + 1) (Nat.le_refl _) (by rw [Array.size_push]; omega) (by omega)
        rw [Array.size_push] at ih
        have ih' : (forIn (List.range' (a + 1) n) (f.push a, a + 1) (StrLaws.occBody x ⟨#[b]⟩ x.length (x.length + 1))).run.fst.size = f.size + 1 + ((x.cps.toList.drop (a + 1)).take n).count b := ih
        show (forIn (List.range' (a + 1) n) (f.push a, a + 1) (StrLaws.occBody x ⟨#[b]⟩ x.length (x.length + 1))).run.fst.size = _
        rw [ih']
        simp
        omega
      · rw [if_neg (by intro z; cases z; exact hb rfl)]
        have ih := occ_cnt x c n (a + 1) f free (by omega) (by omega) (by omega)
        show (forIn (List.range' (a + 1) n) (f, free) (StrLaws.occBody x ⟨#[c]⟩ x.length (x.length + 1))).run.fst.size = _
        rw [ih]
        have : (b == c) = false := by simpa using hb
        simp [this]
theorem count_one (s : List Nat) (c : Nat) : Txt.count ⟨s.toArray⟩ ⟨#[c]⟩ = (s.count c : Nat) := by
  unfold Txt.count
  rw [StrLaws.occ_eq, Array.length_toList]
  have h := occ_cnt ⟨s.toArray⟩ c ((⟨s.toArray⟩ : Str).length + 1) 0 #[] 0 (Nat.le_refl _) (Nat.le_refl _) (by omega)
  have hl : (⟨s.toArray⟩ : Str).length = s.length := by show s.toArray.size = s.length; exact List.size_toArray
  rw [Nat.sub_zero, h]
  simp only [List.size_toArray, List.length_nil, Nat.zero_add, List.drop_zero]
  rw [hl, List.take_of_length_le (by simp)]
theorem occ_stop (x : Str) (c : Nat) : ∀ (l : List Nat) (f : Array Nat) (free : Nat), 1 ≤ f.size → (forIn l (f, free) (StrLaws.occBody x ⟨#[c]⟩ x.length 1)).run.fst = f
  | [], f, free, _ => rfl
  | a :: l, f, free, h => by
    rw [List.forIn_cons]
    unfold StrLaws.occBody
    rw [if_neg (fun z => by have := z.1.1.1; simp only at this; omega)]
    exact occ_stop x c l f free h
theorem occ_fst (x : Str) (c : Nat) : ∀ (n a : Nat) (free : Nat), free ≤ a → a + n = x.length + 1 → c ∈ x.cps.toList.drop a →
    (forIn (List.range' a n) ((#[] : Array Nat), free) (StrLaws.occBody x ⟨#[c]⟩ x.length 1)).run.fst = #[a + (x.cps.toList.drop a).idxOf c]
  | 0, a, free, h1, h2, h3 => by
    have hl : x.length = x.cps.toList.length := by simp [Str.length]
    rw [List.drop_eq_nil_of_le (by omega)] at h3
    cases h3
  | n + 1, a, free, h1, h2, h3 => by
    rw [List.range'_succ, List.forIn_cons, occ_one rfl #[] free h1 (by simp)]
    cases e : x.cps.toList[a]? with
    | none =>
      rw [List.drop_eq_nil_of_le (List.getElem?_eq_none_iff.mp e)] at h3
      cases h3
    | some b =>
      rw [drop_cons e] at h3 ⊢
      by_cases hb : b = c
      · subst hb
        rw [if_pos rfl]
        show (forIn (List.range' (a + 1) n) ((#[] : Array Nat).push a, a + 1) (StrLaws.occBody x ⟨#[b]⟩ x.length 1)).run.fst = _
        rw [occ_stop x b _ _ _ (by simp)]
        simp
      · rw [if_neg (by intro z; cases z; exact hb rfl)]
        have h4 : c ∈ x.cps.toList.drop (a + 1) := by
          rcases List.mem_cons.mp h3 with rfl | h
          · exact absurd rfl hb
          · exact h
        have ih := occ_fst x c n (a + 1) free (by omega) (by omega) h4
        show (forIn (List.range' (a + 1) n) ((#[] : Array Nat), free) (StrLaws.occBody x ⟨#[c]⟩ x.length 1)).run.fst = _
        rw [ih, List.idxOf_cons]
        have : (b == c) = false := by simpa using hb
        rw [this]
        simp
        omega
theorem index_one {s : List Nat} {c : Nat} (h : c ∈ s) : Builtin.Str.occurrences ⟨s.toArray⟩ ⟨#[c]⟩ 0 (⟨s.toArray⟩ : Str).length 1 = [s.idxOf c] := by
  rw [StrLaws.occ_eq]
  have := occ_fst ⟨s.toArray⟩ c ((⟨s.toArray⟩ : Str).length + 1) 0 0 (Nat.le_refl _) (by omega) (by simpa using h)
  rw [Nat.sub_zero, this]
  simp
theorem join_eq (a : List Nat) (ys : List (List Nat)) : Txt.join ⟨a.toArray⟩ (ys.map fun s => (⟨s.toArray⟩ : Str)) = ⟨(joinS a ys).toArray⟩ := by
  unfold Txt.join Builtin.Str.glued
  cases ys with
  | nil => rfl
  | cons y ys =>
    simp only [List.map_cons, List.drop_succ_cons, List.drop_zero, List.headD_cons, joinS]
    congr 1
    have key : ∀ (ys : List (List Nat)) (acc : Array Nat), (ys.map fun s => (⟨s.toArray⟩ : Str)).foldl (fun acc p => acc ++ a.toArray ++ p.cps) acc = acc ++ (ys.map fun z => a ++ z).flatten.toArray := by
      intro ys
      induction ys with
      | nil => intro acc; simp
      | cons z ys ih => intro acc; rw [List.map_cons, List.foldl_cons, ih]; simp
    rw [key]
    simp
section
variable {X : Cx}
theorem mt_swapcase : MtR X "str.swapcase" (fun x xs H Q => ∃ a, x = .str a ∧ xs = [] ∧ a.length ≤ 5592405 ∧ Q (.str (Txt.swapcase a)) H) :=
  mt0 (C := fun a => a.length ≤ 5592405) (g := fun a => .str (Txt.swapcase a)) fun a _ s _ hc h =>
    PySem.SC.swapcase (PyProof.Rows.fit_swapcase hc) (h _ (s.toks + 1) ⟨_, rfl⟩)
theorem s_len (s : List Nat) : (⟨s.toArray⟩ : Str).length = s.length := by show s.toArray.size = s.length; exact List.size_toArray
theorem o_lower : MtR X "str.lower" (fun x xs H Q => ∃ a, x = .str a ∧ xs = [] ∧ a.length ≤ 5592405 ∧ Q (.str (Txt.lower a)) H) ∧ OpM X.K (fun x xs H Q => ∃ a, x = .str a ∧ xs = [] ∧ a.length ≤ 5592405 ∧ Q (.str (Txt.lower a)) H) lowD := by
  refine ⟨mt_lower, OpM.zero (fun d0 ds k d h => ?_) fun F H x e k d hf h1 hd Q q => ?_⟩
  · unfold lowD at h
    split at h <;> first | rfl | (cases h; done)
  · unfold lowD at hd
    split at hd
    · split at hd
      case isFalse => cases hd
      rename_i hc
      cases hd
      exact ⟨_, h1, rfl, by rw [s_len]; exact hc.2, by rw [lower_eq hc.1]; exact q _ _ (.same rfl)⟩
    · cases hd
theorem o_upper : MtR X "str.upper" (fun x xs H Q => ∃ a, x = .str a ∧ xs = [] ∧ a.length ≤ 5592405 ∧ Q (.str (Txt.upper a)) H) ∧ OpM X.K (fun x xs H Q => ∃ a, x = .str a ∧ xs = [] ∧ a.length ≤ 5592405 ∧ Q (.str (Txt.upper a)) H) uppD := by
  refine ⟨mt_upper, OpM.zero (fun d0 ds k d h => ?_) fun F H x e k d hf h1 hd Q q => ?_⟩
  · unfold uppD at h
    split at h <;> first | rfl | (cases h; done)
  · unfold uppD at hd
    split at hd
    · split at hd
      case isFalse => cases hd
      rename_i hc
      cases hd
      exact ⟨_, h1, rfl, by rw [s_len]; exact hc.2, by rw [upper_eq hc.1]; exact q _ _ (.same rfl)⟩
    · cases hd
theorem o_swapcase : MtR X "str.swapcase" (fun x xs H Q => ∃ a, x = .str a ∧ xs = [] ∧ a.length ≤ 5592405 ∧ Q (.str (Txt.swapcase a)) H) ∧ OpM X.K (fun x xs H Q => ∃ a, x = .str a ∧ xs = [] ∧ a.length ≤ 5592405 ∧ Q (.str (Txt.swapcase a)) H) swcD := by
  refine ⟨mt_swapcase, OpM.zero (fun d0 ds k d h => ?_) fun F H x e k d hf h1 hd Q q => ?_⟩
  · unfold swcD at h
    split at h <;> first | rfl | (cases h; done)
  · unfold swcD at hd
    split at hd
    · split at hd
      case isFalse => cases hd
      rename_i hc
      cases hd
      exact ⟨_, h1, rfl, by rw [s_len]; exact hc.2, by rw [swapcase_eq hc.1]; exact q _ _ (.same rfl)⟩
    · cases hd
theorem o_isupper : MtR X "str.isupper" (fun x xs H Q => ∃ a, x = .str a ∧ xs = [] ∧ True ∧ Q (.bl (Txt.isupper a)) H) ∧ OpM X.K (fun x xs H Q => ∃ a, x = .str a ∧ xs = [] ∧ True ∧ Q (.bl (Txt.isupper a)) H) isupD := by
  refine ⟨mt_isupper, OpM.zero (fun d0 ds k d h => ?_) fun F H x e k d hf h1 hd Q q => ?_⟩
  · unfold isupD at h
    split at h <;> first | rfl | (cases h; done)
  · unfold isupD at hd
    split at hd
    · split at hd
      case isFalse => cases hd
      rename_i hc
      cases hd
      exact ⟨_, h1, rfl, trivial, by rw [isupper_eq hc]; exact q _ _ (.same rfl)⟩
    · cases hd
theorem o_islower : MtR X "str.islower" (fun x xs H Q => ∃ a, x = .str a ∧ xs = [] ∧ True ∧ Q (.bl (Txt.islower a)) H) ∧ OpM X.K (fun x xs H Q => ∃ a, x = .str a ∧ xs = [] ∧ True ∧ Q (.bl (Txt.islower a)) H) isloD := by
  refine ⟨mt_islower, OpM.zero (fun d0 ds k d h => ?_) fun F H x e k d hf h1 hd Q q => ?_⟩
  · unfold isloD at h
    split at h <;> first | rfl | (cases h; done)
  · unfold isloD at hd
    split at hd
    · split at hd
      case isFalse => cases hd
      rename_i hc
      cases hd
      exact ⟨_, h1, rfl, trivial, by rw [islower_eq hc]; exact q _ _ (.same rfl)⟩
    · cases hd
theorem o_count : MtR X "str.count" (fun x xs H Q => ∃ a b, x = .str a ∧ xs = [.str b] ∧ Q (.int (Txt.count a b)) H) ∧ OpM X.K (fun x xs H Q => ∃ a b, x = .str a ∧ xs = [.str b] ∧ Q (.int (Txt.count a b)) H) countD := by
  refine ⟨mt_count, OpM.one (fun d0 ds k d h => ?_) fun F H x y e e' k d hf h1 h2 hd Q q => ?_⟩
  · unfold countD at h
    split at h <;> first | exact ⟨_, rfl⟩ | (cases h; done)
  · unfold countD at hd
    split at hd
    · rename_i s c heq
      cases heq
      cases hd
      have h2 : y = .str ⟨#[c]⟩ := h2
      exact ⟨_, ⟨#[c]⟩, h1, by rw [h2], by rw [count_one]; exact q _ _ (.same rfl)⟩
    · cases hd
theorem o_index : MtR X "str.index" (fun x xs H Q => ∃ a b i rest, x = .str a ∧ xs = [.str b] ∧ Builtin.Str.occurrences a b 0 a.length 1 = i :: rest ∧ Q (.int (i : Nat)) H) ∧ OpM X.K (fun x xs H Q => ∃ a b i rest, x = .str a ∧ xs = [.str b] ∧ Builtin.Str.occurrences a b 0 a.length 1 = i :: rest ∧ Q (.int (i : Nat)) H) indexD := by
  refine ⟨mt_sindex, OpM.one (fun d0 ds k d h => ?_) fun F H x y e e' k d hf h1 h2 hd Q q => ?_⟩
  · unfold indexD at h
    split at h <;> first | exact ⟨_, rfl⟩ | (cases h; done)
  · unfold indexD at hd
    split at hd
    · rename_i s c heq
      cases heq
      split at hd
      case isFalse => cases hd
      rename_i hm
      cases hd
      have h2 : y = .str ⟨#[c]⟩ := h2
      exact ⟨_, ⟨#[c]⟩, _, [], h1, by rw [h2], index_one hm, q _ _ (.same rfl)⟩
    · cases hd
abbrev rJoinD (K : PySem.W.Frag) : V → List V → Hp → VK → Prop := fun x xs H Q => ∃ a p, ∃ ys : List Str, x = .str a ∧ xs = [.ref p] ∧ (SqL K H p (ys.map V.str) ∨ SqT K H p (ys.map V.str)) ∧
    (ys.map (·.length)).sum + ys.length * a.length ≤ 16777216 ∧ Q (.str (Txt.join a ys)) H
theorem o_join : MtR X "str.join" (rJoinD X.K) ∧ OpM X.K (rJoinD X.K) joinD := by
  refine ⟨mt_join, OpM.one (fun d0 ds k d h => ?_) fun F H x y e e' k d hf h1 h2 hd Q q => ?_⟩
  · unfold joinD at h
    split at h <;> first | exact ⟨_, rfl⟩ | (cases h; done)
  · have go : ∀ (a : List Nat) (ds : List D), e = .str a → (e' = .lst ds ∨ e' = .fls ds ∨ e' = .tup ds) → (match strsL ds with
        | some ys => if (ys.map (·.length)).sum + ys.length * a.length ≤ LL then some ((0 : Nat), D.str (joinS a ys)) else none
        | none => none) = some (k, d) → rJoinD X.K x [y] H Q := fun a ds he he' hq => by
      subst he
      cases e2 : strsL ds with
      | none => rw [e2] at hq; cases hq
      | some ys =>
        rw [e2] at hq
        have hq : (if (ys.map (·.length)).sum + ys.length * a.length ≤ LL then some ((0 : Nat), D.str (joinS a ys)) else none) = some (k, d) := hq
        split at hq
        case isFalse => cases hq
        rename_i hz
        cases hq
        have hz' : ((ys.map fun s => (⟨s.toArray⟩ : Str)).map (·.length)).sum + (ys.map fun s => (⟨s.toArray⟩ : Str)).length * (⟨a.toArray⟩ : Str).length ≤ 16777216 := by
          rw [List.map_map, List.length_map, s_len]
          have : (fun x : Str => x.length) ∘ (fun s : List Nat => (⟨s.toArray⟩ : Str)) = fun s => s.length := by funext s; exact s_len s
          rw [this]
          exact hz
        have fin : Q (.str (Txt.join ⟨a.toArray⟩ (ys.map fun s => (⟨s.toArray⟩ : Str)))) H := by rw [join_eq]; exact q _ _ (.same rfl)
        rcases he' with rfl | rfl | rfl
        · obtain ⟨p, xs, rfl, g1, g2⟩ := ef_seq hf (.inl rfl) h2
          rw [rzs_strs g2 e2] at g1
          exact ⟨_, p, _, h1, rfl, .inl g1, hz', fin⟩
        · obtain ⟨p, xs, rfl, g1, g2⟩ := ef_seq hf (.inr rfl) h2
          rw [rzs_strs g2 e2] at g1
          exact ⟨_, p, _, h1, rfl, .inl g1, hz', fin⟩
        · obtain ⟨p, xs, rfl, g1, g2⟩ := ef_tup hf h2
          rw [rzs_strs g2 e2] at g1
          exact ⟨_, p, _, h1, rfl, .inr g1, hz', fin⟩
    unfold joinD at hd
    split at hd
    · rename_i heq; cases heq; exact go _ _ rfl (.inl rfl) hd
    · rename_i heq; cases heq; exact go _ _ rfl (.inr (.inl rfl)) hd
    · rename_i heq; cases heq; exact go _ _ rfl (.inr (.inr rfl)) hd
    · cases hd
end
end DN

set_option Elab.async false
set_option linter.all false
set_option maxRecDepth 100000
set_option maxHeartbeats 1000000
namespace DN
open PySem PySem.Spec PyProof.Rows L2

/-! ### x op= y -/
def iaddD : D → D → Option (Nat × D)
  | .int i, .int j => some (0, .int (i + j))
  | .str s, .str t => if s.length + t.length ≤ LL then some (0, .str (s ++ t)) else none
  | _, _ => none
def imulD : D → D → Option (Nat × D)
  | .int i, .int j => if (-18446744073709551616 < i ∧ i < 18446744073709551616) ∨ (-18446744073709551616 < j ∧ j < 18446744073709551616) then some (0, .int (i * j)) else none
  | _, _ => none
def ifdivD : D → D → Option (Nat × D)
  | .int i, .int j => if 0 < j ∧ j < 1073741824 then some (0, .int (i / j)) else none
  | _, _ => none
def imodD : D → D → Option (Nat × D)
  | .int i, .int j => if 0 < j then some (0, .int (i % j)) else none
  | _, _ => none
section
variable {X : Cx}
theorem oint0 {K : PySem.W.Frag} {g : Int → Int → Int} {f : D → D → Option (Nat × D)} (h : ∀ d e k r, f d e = some (k, r) → ∃ i j, d = .int i ∧ e = .int j ∧ k = 0 ∧ r = .int (g i j)) : Op2 K (rI0 fun i j => .int (g i j)) f := by
  intro F H x y d1 d2 k d hf h1 h2 hd Q q
  obtain ⟨i, j, rfl, rfl, rfl, rfl⟩ := h _ _ _ _ hd
  exact ⟨i, j, h1, h2, q _ _ (.same rfl)⟩
abbrev rIadd : R2 := fun x y H Q => rI0 (fun i j => .int (i + j)) x y H Q ∨ (fun x y H Q => ∃ i j, x = .str i ∧ y = .str j ∧ i.length + j.length ≤ sizeLine ∧ Q (.str (i ++ j)) H) x y H Q
theorem o_iadd : PIp X .Add rIadd ∧ Op2 X.K rIadd iaddD := by
  refine ⟨iop_add.or iop_add_str, ?_⟩
  intro F H x y d1 d2 k d hf h1 h2 hd Q q
  unfold iaddD at hd
  split at hd
  · cases hd
    exact .inl ⟨_, _, h1, h2, q _ _ (.same rfl)⟩
  · split at hd
    · rename_i s t hz
      cases hd
      refine .inr ⟨_, _, h1, h2, ?_, q _ _ (.same ?_)⟩
      · rw [line_eq]; simpa [Str.length] using hz
      · show V.str _ = V.str _
        congr 1
        show (⟨s.toArray ++ t.toArray⟩ : Str) = _
        simp
    · cases hd
  · cases hd
theorem o_isub : PIp X .Sub (rI0 fun i j => .int (i - j)) ∧ Op2 X.K (rI0 fun i j => .int (i - j)) subD :=
  ⟨iop_sub, oint0 fun d e k r h => by
    unfold subD at h
    split at h
    · cases h; exact ⟨_, _, rfl, rfl, rfl, rfl⟩
    · cases h⟩
theorem o_imul : PIp X .Mult (rI CMul fun i j => .int (i * j)) ∧ Op2 X.K (rI CMul fun i j => .int (i * j)) imulD :=
  ⟨iop_mul, oint fun d e k r h => by
    unfold imulD at h
    split at h
    · split at h
      · rename_i hc; cases h; exact ⟨_, _, rfl, rfl, by rcases hc with hc | hc; exact .inl ⟨by omega, by omega⟩; exact .inr ⟨by omega, by omega⟩, rfl, rfl⟩
      · cases h
    · cases h⟩
theorem o_ifdiv : PIp X .FloorDiv (rI CDiv fun i j => .int (i / j)) ∧ Op2 X.K (rI CDiv fun i j => .int (i / j)) ifdivD :=
  ⟨iop_fdiv, oint fun d e k r h => by
    unfold ifdivD at h
    split at h
    · split at h
      · rename_i hc; cases h; exact ⟨_, _, rfl, rfl, hc, rfl, rfl⟩
      · cases h
    · cases h⟩
theorem o_imod : PIp X .Mod (rI (fun _ j => 0 < j) fun i j => .int (i % j)) ∧ Op2 X.K (rI (fun _ j => 0 < j) fun i j => .int (i % j)) imodD :=
  ⟨iop_mod, oint fun d e k r h => by
    unfold imodD at h
    split at h
    · split at h
      · rename_i hc; cases h; exact ⟨_, _, rfl, rfl, hc, rfl, rfl⟩
      · cases h
    · cases h⟩
end
end DN

set_option Elab.async false
set_option linter.all false
set_option maxRecDepth 100000
set_option maxHeartbeats 1000000
namespace DN
open PySem PySem.Spec PyProof.Rows L2

/-! ### a def of the text, with what is known of it -/
def DF (P : Program) (w : World) (K : PySem.W.Frag) (mg : Str → Option Value) (base : Heap) (x : Str) (st : Stmt) (k : Nat) (ps : List Str) (den : FN) : Prop :=
  ∃ f fd, mg x = some (.ref f) ∧ FunD K x x (defArgs st) (defBody st) (defScope st) [] [] f fd ∧ FnOk P w K mg base CX0 k f fd ps (spD K XM.off den)
def BindP (x : Str) (st : Stmt) (ps : List Str) : Prop := ∀ (kV doc pm : Value) (an : Option Addr) (cdv ct : Value) (us : List Value), us.length = ps.length → bindArgs (PySem.W.fnOf x x (defArgs st) (defBody st) (defScope st) .none kV doc pm an cdv ct) ⟨us, []⟩ = pure (ps.zip us)
def BindK (x : Str) (st : Stmt) (ps : List Str) (n : Nat) (ks : List Str) (ix : List Nat) : Prop := ∀ (kV doc pm : Value) (an : Option Addr) (cdv ct : Value) (us ws : List Value), us.length = n → ws.length = ks.length →
  bindArgs (PySem.W.fnOf x x (defArgs st) (defBody st) (defScope st) .none kV doc pm an cdv ct) ⟨us, ks.zip ws⟩ = pure (ps.zip (pick ix (us ++ ws)))
theorem bindK_of {K : PySem.W.Frag} {x : Str} {st : Stmt} {f : Addr} {fd : FuncData} {ps ks : List Str} {n : Nat} {ix : List Nat} (F : FunD K x x (defArgs st) (defBody st) (defScope st) [] [] f fd) (h : BindK x st ps n ks ix) : KBx K fd ps n ks ix := by
  obtain ⟨oc, od, dV, kV, doc, pm, an, cdv, ct, osl, rfl, lk, hcd, hD, hK⟩ := F.ex
  rcases hD with ⟨_, rfl⟩ | ⟨e, _⟩
  · exact ⟨fun us ws l1 l2 => h kV doc pm an cdv ct us ws l1 l2⟩
  · exact absurd rfl e
section
variable {X : Cx} {P O : List Nat} {k k' : Nat} {ps : List Str} {x : Str} {st : Stmt} {p pos : Pos} {e : Expr} {es : List Expr} {fr fk : Ev → R (List T)} {den : FN}
theorem px_callF (bs : List Bool) (D : DF X.prog X.w X.K X.mg X.base x st k ps den) (hr : Room k' X.A) (hk : k ≤ k') (hg : Gl X x) (bd : BindP x st ps) (ha : PXa X XM.off (e :: es) fr)
    (hdb : (x == ("__debug__" : Str)) = false := by decide) (he : starEach (e :: es) X.env = (false, eval e X.env) :: starEach es X.env := by rfl) (hpl : (backTo pos (starEach es X.env)).any (·.1) = false := by rfl) :
    PX X XM.off (.Call (.Name x p) (e :: es) [] pos) (dCall den bs fr) := by
  obtain ⟨f, fd, hm, F, ok⟩ := D
  exact px_call ok (hr.mono hk) hg hm F.kp (FunD.bindsN F bd) ha hdb he hpl
theorem px_callKF {n : Nat} {ks : List Str} {ix : List Nat} {kws : List Keyword} (D : DF X.prog X.w X.K X.mg X.base x st k ps den) (hr : Room k' X.A) (hk : k ≤ k') (hg : Gl X x) (bd : BindK x st ps n ks ix) (ha : PXa X XM.off (e :: es) fr) (hkw : PXk X XM.off kws fk)
    (hall : (backToKw pos (keywordEach kws X.env)).all (·.1.isSome) = true := by rfl) (hks : (backToKw pos (keywordEach kws X.env)).filterMap (·.1) = ks := by rfl)
    (hdb : (x == ("__debug__" : Str)) = false := by decide) (he : starEach (e :: es) X.env = (false, eval e X.env) :: starEach es X.env := by rfl)
    (hpl : ((backTo pos (starEach (e :: es) X.env)).any (·.1) || (backToKw pos (keywordEach kws X.env)).any (·.1.isNone)) = false := by rfl) :
    PX X XM.off (.Call (.Name x p) (e :: es) kws pos) (dCallK den ix (dAppA n ks.length fr fk)) := by
  obtain ⟨f, fd, hm, F, ok⟩ := D
  exact px_callX ok (hr.mono hk) hg hm F.kp (bindK_of F bd) ha hkw hall hks hdb he hpl
theorem px_callKF0 {ks : List Str} {ix : List Nat} {kws : List Keyword} (D : DF X.prog X.w X.K X.mg X.base x st k ps den) (hr : Room k' X.A) (hk : k ≤ k') (hg : Gl X x) (bd : BindK x st ps 0 ks ix) (hkw : PXk X XM.off kws fk)
    (hall : (backToKw pos (keywordEach kws X.env)).all (·.1.isSome) = true := by rfl) (hks : (backToKw pos (keywordEach kws X.env)).filterMap (·.1) = ks := by rfl)
    (hdb : (x == ("__debug__" : Str)) = false := by decide)
    (hpl : ((backTo pos (starEach [] X.env)).any (·.1) || (backToKw pos (keywordEach kws X.env)).any (·.1.isNone)) = false := by rfl) :
    PX X XM.off (.Call (.Name x p) [] kws pos) (dCallK den ix (dAppA 0 ks.length dNil fk)) := by
  obtain ⟨f, fd, hm, F, ok⟩ := D
  exact px_callX0 ok (hr.mono hk) hg hm F.kp (bindK_of F bd) hkw hall hks hdb hpl
/-- a module's name for a text -/
theorem px_gstr {z : Str} {s : List Nat} (hm : ∃ t, X.mg x = some (.str z t)) (hg : Gl X x) (hz : z.cps.toList = s) {xm : XM} (hdb : (x == ("__debug__" : Str)) = false := by decide) : PX X xm (.Name x pos) (dC (.str s)) := by
  obtain ⟨t, hm⟩ := hm
  subst hz
  exact px_glob (v := .str z) hg hm ⟨t, rfl⟩ (fun F => by show V.str z = V.str _; rw [str_toArray]) hdb
end
theorem units65 {k : Nat} {A : Around} (r : Room k A) : A.units + 65 < cLine := by have := r.un; omega
theorem df_mk {Pr : Program} {w : World} {K : PySem.W.Frag} {mg : Str → Option Value} {base : Heap} {x : Str} {st : Stmt} {f : Addr} {N ps : List Str} {k : Nat} {P : List Nat} {g : Ev → R Out}
    (hm : mg x = some (.ref f)) (hF : ∃ fd, FunD K x x (defArgs st) (defBody st) (defScope st) [] [] f fd) (S : FnScope N ps (defScope st))
    (h : ∀ (cdv : Value) (A : Around) (outer : List Env) (s : Shared) (H : Hp) (E : XK), Room k (A.deeper (envOfC x (defScope st) s.heap.objs.size f cdv)) → PXb (cxOf CX0 Pr w K mg base N x (defScope st) f cdv A outer s H E).nox XM.off P (defBody st) g) :
    DF Pr w K mg base x st (k + 1) ps (denOf P ps.length N.length g) := by
  obtain ⟨fd, F⟩ := hF
  exact ⟨f, fd, hm, F, fn_den F S P g fun cdv A outer s H E hr => ⟨_, h cdv A outer s H E hr, ws_can _⟩⟩
end DN

set_option Elab.async false
set_option linter.all false
set_option maxRecDepth 100000
set_option maxHeartbeats 1000000
namespace DN
open PySem PySem.Spec PyProof.Rows L2

theorem rzs_of_ints {K : PySem.W.Frag} {F : Hp} : ∀ ns : List Int, Rzs K F (ns.map V.int) (ns.map D.int)
  | [] => rfl
  | n :: ns => ⟨_, _, rfl, rfl, rzs_of_ints ns⟩
/-- a script, as it is handed in -/
def scr (ns : List Int) : Sl := .vl 0 (.fls (ns.map .int))
def LawTrue (den : FN) : Prop := ∀ ns : List Int, ns.length ≤ 63 → ∃ fin, den [scr ns] = .ok (0, .bl true) fin
theorem law_spD {K : PySem.W.Frag} {den : FN} (h : LawTrue den) {H : Hp} {a : Addr} {ns : List Int} (hl : ns.length ≤ 63) (hS : SqL K H a (ns.map V.int)) (E : XK) : spD K XM.off den [.ref a] H (fun v _ => v = .bl true) E := by
  obtain ⟨fin, e⟩ := h ns hl
  refine ⟨[scr ns], [], rfl, ⟨H, fun _ => False, Le.refl H, fun _ z => z.elim, fun _ => False, fun _ => False, fun _ z => z, fun _ z => z, fun _ z => z.elim, ⟨.ref a, rfl, a, _, rfl, hS, rzs_of_ints ns⟩, trivial⟩, ?_⟩
  rw [e]
  intro v H' _ hr
  obtain ⟨F, A, c⟩ := hr
  obtain ⟨A', _, v', e2, hz⟩ := c.sep.mem (p := ((some v, .vl 0 (.bl true)) : Ent)) (List.mem_cons_self ..)
  cases e2
  exact hz
end DN

set_option Elab.async false
set_option linter.all false
set_option maxRecDepth 100000
set_option maxHeartbeats 1000000
namespace DN
open PySem PySem.Spec PyProof.Rows L2

/-! ### step by step: each combinator, applied -/
section
variable {f g : D → D → Option (Nat × D)} {u1 : D → Option (Nat × D)} {un : List D → Option (Nat × D)} {um : D → List D → Option (Nat × D)} {us : D → Option Int → Option Int → Option (Nat × D)} {fa fb fc : Ev → R T} {fr fk : Ev → R (List T)} {ft fu : Ev → R Bool} {fl fh : Ev → R (Option Int)} {fi : Ev → R (List D)} {b : D → Ev → Option Ev} {bs : List D → Ev → Option Ev}
  {g1 g2 body : Ev → R Out} {den : FN} {ev ev1 ev2 : Ev} {i j k n m : Nat} {d e : D} {ds : List D} {t u : T} {ts : List T} {bl : List Bool} {vs ix : List Nat} {ty : String} {c : Bool}
def varK (i : Nat) (ev : Ev) : Option Sl → R T
  | some (.vl 0 d) => .ok (.vl 0 d) ev
  | some (.vl (_ + 1) _) => .ok (.al i) ev
  | some (.io _ _) => .ok (.al i) ev
  | _ => .bad
theorem e_var : dVar i ev = varK i ev ev[i]? := by
  unfold dVar varK
  cases h : ev[i]? with
  | none => rfl
  | some s =>
    cases s with
    | un => rfl
    | vl k d => cases k <;> rfl
    | io k d => rfl
theorem e_varK0 : varK i ev (some (.vl 0 d)) = .ok (.vl 0 d) ev := (rfl)
theorem e_varK1 : varK i ev (some (.vl 1 d)) = .ok (.al i) ev := (rfl)
theorem e_varKi : varK i ev (some (.io k d)) = .ok (.al i) ev := (rfl)
theorem e_c : dC d ev = .ok (.vl 0 d) ev := (rfl)
def unK (f : D → Option (Nat × D)) : T → Ev → R T := fun t ev1 => match t.rd ev1 with
  | some d => out (f d) ev1
  | none => .bad
theorem e_un : dUn u1 fa ev = (fa ev).bind (unK u1) := (rfl)
def opK (f : D → D → Option (Nat × D)) (fb : Ev → R T) : T → Ev → R T := fun t ev1 => (fb ev1).bind fun u ev2 => match t.rd ev2, u.rd ev2 with
  | some d, some e => out (f d e) ev2
  | _, _ => .bad
def opK2 (f : D → D → Option (Nat × D)) (t : T) : T → Ev → R T := fun u ev2 => match t.rd ev2, u.rd ev2 with
  | some d, some e => out (f d e) ev2
  | _, _ => .bad
theorem e_op : dOp f fa fb ev = (fa ev).bind (opK f fb) := (rfl)
theorem e_opK : opK f fb t ev = (fb ev).bind (opK2 f t) := (rfl)
theorem e_nil : dNil ev = .ok [] ev := (rfl)
def consK (fr : Ev → R (List T)) : T → Ev → R (List T) := fun t ev1 => (fr ev1).bind fun ts ev2 => .ok (t :: ts) ev2
def consK2 (t : T) : List T → Ev → R (List T) := fun ts ev2 => .ok (t :: ts) ev2
theorem e_cons : dCons fa fr ev = (fa ev).bind (consK fr) := (rfl)
theorem e_consK : consK fr t ev = (fr ev).bind (consK2 t) := (rfl)
theorem e_consK2 : consK2 t ts ev = .ok (t :: ts) ev := (rfl)
def cbK (f : List D → Option (Nat × D)) : List T → Ev → R T := fun ts ev1 => match rds ts ev1 with
  | some ds => out (f ds) ev1
  | none => .bad
theorem e_cb : dCB un fr ev = (fr ev).bind (cbK un) := (rfl)
def bmK (ty : String) (f : D → List D → Option (Nat × D)) (fa : Ev → R (List T)) : T → Ev → R T := fun t ev1 => match (t.rd ev1).map (tyD ty) with
  | some true => (fa ev1).bind fun ts ev2 => match t.rd ev2, rds ts ev2 with
    | some d, some ds => out (f d ds) ev2
    | _, _ => .bad
  | _ => .bad
def bmK2 (f : D → List D → Option (Nat × D)) (t : T) : List T → Ev → R T := fun ts ev2 => match t.rd ev2, rds ts ev2 with
  | some d, some ds => out (f d ds) ev2
  | _, _ => .bad
def bmK1 (f : D → List D → Option (Nat × D)) (fa : Ev → R (List T)) (t : T) (ev1 : Ev) : Bool → R T
  | true => (fa ev1).bind (bmK2 f t)
  | false => .bad
theorem e_bm : dBM ty um fa fr ev = (fa ev).bind (bmK ty um fr) := (rfl)
theorem e_bmK (h : t.rd ev = some d) : bmK ty um fr t ev = bmK1 um fr t ev (tyD ty d) := by
  unfold bmK bmK1
  rw [h]
  cases e : tyD ty d with
  | false => simp [e]
  | true => simp [e]; rfl
theorem e_bmKs {s : List Nat} : bmK "str" um fr (.vl 0 (.str s)) ev = (fr ev).bind (bmK2 um (.vl 0 (.str s))) := (rfl)
def partK : T → Ev → R (Option Int) := fun t ev1 => match t.rd ev1 with
  | some (.int i) => .ok (some i) ev1
  | _ => .bad
theorem e_noPart : dNoPart ev = .ok none ev := (rfl)
theorem e_part : dPart fa ev = (fa ev).bind partK := (rfl)
def slK (f : D → Option Int → Option Int → Option (Nat × D)) (fl fh : Ev → R (Option Int)) : T → Ev → R T := fun t ev1 => (fl ev1).bind fun lo ev2 => (fh ev2).bind fun hi ev3 => match t.rd ev3 with
  | some d => out (f d lo hi) ev3
  | none => .bad
def slK1 (f : D → Option Int → Option Int → Option (Nat × D)) (fh : Ev → R (Option Int)) (t : T) : Option Int → Ev → R T := fun lo ev2 => (fh ev2).bind fun hi ev3 => match t.rd ev3 with
  | some d => out (f d lo hi) ev3
  | none => .bad
def slK2 (f : D → Option Int → Option Int → Option (Nat × D)) (t : T) (lo : Option Int) : Option Int → Ev → R T := fun hi ev3 => match t.rd ev3 with
  | some d => out (f d lo hi) ev3
  | none => .bad
theorem e_sl : dSl us fa fl fh ev = (fa ev).bind (slK us fl fh) := (rfl)
theorem e_slK : slK us fl fh t ev = (fl ev).bind (slK1 us fh t) := (rfl)
theorem e_slK1 {lo : Option Int} : slK1 us fh t lo ev = (fh ev).bind (slK2 us t lo) := (rfl)
def testK : T → Ev → R Bool := fun t ev1 => match t.rd ev1 with
  | some (.bl b) => .ok b ev1
  | _ => .bad
theorem e_test : dTest fa ev = (fa ev).bind testK := (rfl)
def andK (fb : Ev → R Bool) : Bool → Ev → R Bool := fun b ev1 => if b = true then fb ev1 else .ok false ev1
def orK (fb : Ev → R Bool) : Bool → Ev → R Bool := fun b ev1 => if b = true then .ok true ev1 else fb ev1
def notK : Bool → Ev → R Bool := fun b ev1 => .ok (!b) ev1
theorem e_and : dAnd ft fu ev = (ft ev).bind (andK fu) := (rfl)
theorem e_andT : andK fu true ev = fu ev := (rfl)
theorem e_andF : andK fu false ev = .ok false ev := (rfl)
theorem e_or : dOr ft fu ev = (ft ev).bind (orK fu) := (rfl)
theorem e_orT : orK fu true ev = .ok true ev := (rfl)
theorem e_orF : orK fu false ev = fu ev := (rfl)
theorem e_not : dNot ft ev = (ft ev).bind notK := (rfl)
theorem e_notK : notK c ev = .ok (!c) ev := (rfl)
def ifK {α : Type} (fa fb : Ev → R α) : Bool → Ev → R α := fun b ev1 => if b = true then fa ev1 else fb ev1
theorem e_if : dIf ft fa fb ev = (ft ev).bind (ifK fa fb) := (rfl)
theorem e_ifT {α : Type} {fa fb : Ev → R α} : ifK fa fb true ev = fa ev := (rfl)
theorem e_ifF {α : Type} {fa fb : Ev → R α} : ifK fa fb false ev = fb ev := (rfl)
theorem e_ifS : dIfS ft g1 g2 ev = (ft ev).bind (ifK g1 g2) := (rfl)
def andVK (fb : Ev → R T) : T → Ev → R T := fun t ev1 => match t.rd ev1 with
  | some (.bl b) => if b = true then fb ev1 else .ok (.vl 0 (.bl false)) ev1
  | _ => .bad
def orVK (fb : Ev → R T) : T → Ev → R T := fun t ev1 => match t.rd ev1 with
  | some (.bl b) => if b = true then .ok (.vl 0 (.bl true)) ev1 else fb ev1
  | _ => .bad
def notVK : T → Ev → R T := fun t ev1 => match t.rd ev1 with
  | some (.bl b) => .ok (.vl 0 (.bl (!b))) ev1
  | _ => .bad
theorem e_andV : dAndV fa fb ev = (fa ev).bind (andVK fb) := (rfl)
theorem e_andVT : andVK fb (.vl 0 (.bl true)) ev = fb ev := (rfl)
theorem e_andVF : andVK fb (.vl 0 (.bl false)) ev = .ok (.vl 0 (.bl false)) ev := (rfl)
theorem e_orV : dOrV fa fb ev = (fa ev).bind (orVK fb) := (rfl)
theorem e_orVT : orVK fb (.vl 0 (.bl true)) ev = .ok (.vl 0 (.bl true)) ev := (rfl)
theorem e_orVF : orVK fb (.vl 0 (.bl false)) ev = fb ev := (rfl)
theorem e_notV : dNotV fa ev = (fa ev).bind notVK := (rfl)
theorem e_notVK : notVK (.vl 0 (.bl c)) ev = .ok (.vl 0 (.bl (!c))) ev := (rfl)
def chK (f g : D → D → Option (Nat × D)) (fb fc : Ev → R T) : T → Ev → R T := fun t ev1 => (fb ev1).bind fun u ev2 => match t.rd ev2, u.rd ev2 with
  | some d, some e => (match f d e with
    | some (0, .bl b) => if b = true then (fc ev2).bind fun w ev3 => (match u.rd ev3, w.rd ev3 with
      | some e, some h => out (g e h) ev3
      | _, _ => .bad) else .ok (.vl 0 (.bl false)) ev2
    | _ => .bad)
  | _, _ => .bad
def chK2 (f g : D → D → Option (Nat × D)) (fc : Ev → R T) (t : T) : T → Ev → R T := fun u ev2 => match t.rd ev2, u.rd ev2 with
  | some d, some e => (match f d e with
    | some (0, .bl b) => if b = true then (fc ev2).bind fun w ev3 => (match u.rd ev3, w.rd ev3 with
      | some e, some h => out (g e h) ev3
      | _, _ => .bad) else .ok (.vl 0 (.bl false)) ev2
    | _ => .bad)
  | _, _ => .bad
def chK3 (g : D → D → Option (Nat × D)) (fc : Ev → R T) (u : T) (ev : Ev) : Bool → R T
  | true => (fc ev).bind (opK2 g u)
  | false => .ok (.vl 0 (.bl false)) ev
theorem e_chain : dChain f g fa fb fc ev = (fa ev).bind (chK f g fb fc) := (rfl)
theorem e_chK : chK f g fb fc t ev = (fb ev).bind (chK2 f g fc t) := (rfl)
theorem e_chK2 (h1 : t.rd ev = some d) (h2 : u.rd ev = some e) (h3 : f d e = some (0, .bl c)) : chK2 f g fc t u ev = chK3 g fc u ev c := by
  unfold chK2 chK3
  rw [h1, h2]
  simp only [h3]
  cases c <;> rfl
theorem e_ch3T : chK3 g fc u ev true = (fc ev).bind (opK2 g u) := (rfl)
theorem e_ch3F : chK3 g fc u ev false = .ok (.vl 0 (.bl false)) ev := (rfl)
def isiK (cs : List Nat) : T → Ev → R T := fun t ev1 => match t.rd ev1 with
  | some d => .ok (.vl 0 (.bl (cs.any fun c => isC c d))) ev1
  | none => .bad
theorem e_isi {cs : List Nat} : dIsi cs fa ev = (fa ev).bind (isiK cs) := (rfl)
def tupK : List T → Ev → R T := fun ts ev1 => match fzs ts ev1 with
  | some (ds, ev2) => if ds.length ≤ 10000 then .ok (.vl 0 (.tup ds)) ev2 else .bad
  | none => .bad
def lstK : List T → Ev → R T := fun ts ev1 => match fzs ts ev1 with
  | some (ds, ev2) => if ds.length ≤ 10000 then .ok (.vl 1 (.lst ds)) ev2 else .bad
  | none => .bad
theorem e_tup : dTupE fr ev = (fr ev).bind tupK := (rfl)
theorem e_lst : dLstE fr ev = (fr ev).bind lstK := (rfl)
/-! calls -/
def callK (den : FN) (bs : List Bool) : List T → Ev → R T := fun ts ev1 => match passN bs ts ev1 with
  | some (args, ev2) => (match den args with
    | .ok p fin => if fin.length = args.length then .ok (.vl p.1 p.2) (backN bs ts ev1 fin ev2) else .bad
    | .exc n d fin => if fin.length = args.length then .exc n d (backN bs ts ev1 fin ev2) else .bad
    | .bad => .bad)
  | none => .bad
def callK2 (bs : List Bool) (ts : List T) (ev1 ev2 : Ev) (n : Nat) : R (Nat × D) → R T
  | .ok p fin => if fin.length = n then .ok (.vl p.1 p.2) (backN bs ts ev1 fin ev2) else .bad
  | .exc k d fin => if fin.length = n then .exc k d (backN bs ts ev1 fin ev2) else .bad
  | .bad => .bad
theorem e_call : dCall den bl fr ev = (fr ev).bind (callK den bl) := (rfl)
def callL (den : FN) (bs : List Bool) (ts : List T) (ev1 : Ev) : Option (List Sl × Ev) → R T
  | some (args, ev2) => callK2 bs ts ev1 ev2 args.length (den args)
  | none => .bad
theorem e_callK : callK den bl ts ev1 = callL den bl ts ev1 (passN bl ts ev1) := by
  unfold callK callL
  cases passN bl ts ev1 with
  | none => rfl
  | some p =>
    obtain ⟨args, ev2⟩ := p
    simp only
    cases den args <;> rfl
theorem e_callL {args : List Sl} : callL den bl ts ev1 (some (args, ev2)) = callK2 bl ts ev1 ev2 args.length (den args) := (rfl)
theorem e_callK2 {p : Nat × D} {fin : List Sl} (h : fin.length = n) : callK2 bl ts ev1 ev2 n (.ok p fin) = .ok (.vl p.1 p.2) (backN bl ts ev1 fin ev2) := if_pos h
def appAK (n m : Nat) (f2 : Ev → R (List T)) : List T → Ev → R (List T) := fun ts ev1 => (f2 ev1).bind fun us ev2 => if ts.length = n ∧ us.length = m then .ok (ts ++ us) ev2 else .bad
def appAK2 (n m : Nat) (ts : List T) : List T → Ev → R (List T) := fun us ev2 => if ts.length = n ∧ us.length = m then .ok (ts ++ us) ev2 else .bad
theorem e_appA : dAppA n m fr fk ev = (fr ev).bind (appAK n m fk) := (rfl)
theorem e_appAK : appAK n m fk ts ev = (fk ev).bind (appAK2 n m ts) := (rfl)
theorem e_appAK2 {us : List T} (h : ts.length = n ∧ us.length = m) : appAK2 n m ts us ev = .ok (ts ++ us) ev := if_pos h
def kwK (den : FN) (ix : List Nat) : List T → Ev → R T := fun ts ev1 => match fzs ts ev1 with
  | some (ds, ev2) => (match den ((pick ix ds).map fun d => .vl 0 d) with
    | .ok p fin => if fin.length = (pick ix ds).length then .ok (.vl p.1 p.2) ev2 else .bad
    | .exc n d fin => if fin.length = (pick ix ds).length then .exc n d ev2 else .bad
    | .bad => .bad)
  | none => .bad
def kwK2 (n : Nat) (ev2 : Ev) : R (Nat × D) → R T
  | .ok p fin => if fin.length = n then .ok (.vl p.1 p.2) ev2 else .bad
  | .exc k d fin => if fin.length = n then .exc k d ev2 else .bad
  | .bad => .bad
theorem e_callKw : dCallK den ix fr ev = (fr ev).bind (kwK den ix) := (rfl)
def kwL (den : FN) (ix : List Nat) : Option (List D × Ev) → R T
  | some (ds, ev2) => kwK2 (pick ix ds).length ev2 (den ((pick ix ds).map fun d => .vl 0 d))
  | none => .bad
theorem e_kwK : kwK den ix ts ev1 = kwL den ix (fzs ts ev1) := by
  unfold kwK kwL
  cases fzs ts ev1 with
  | none => rfl
  | some p =>
    obtain ⟨ds, ev2⟩ := p
    simp only
    cases den ((pick ix ds).map fun d => .vl 0 d) <;> rfl
theorem e_kwL : kwL den ix (some (ds, ev2)) = kwK2 (pick ix ds).length ev2 (den ((pick ix ds).map fun d => .vl 0 d)) := (rfl)
theorem e_kwK2 {p : Nat × D} {fin : List Sl} (h : fin.length = n) : kwK2 n ev2 (.ok p fin) = .ok (.vl p.1 p.2) ev2 := if_pos h
/-! statements -/
def seqK (g2 : Ev → R Out) : Out → Ev → R Out := fun o ev1 => match o with
  | .nx => g2 ev1
  | o => .ok o ev1
theorem e_seq : dSeq g1 g2 ev = (g1 ev).bind (seqK g2) := (rfl)
theorem e_seqN : seqK g2 .nx ev = g2 ev := (rfl)
theorem e_seqR : seqK g2 (.rt t) ev = .ok (.rt t) ev := (rfl)
theorem e_seqB : seqK g2 .bk ev = .ok .bk ev := (rfl)
theorem e_seqC : seqK g2 .ct ev = .ok .ct ev := (rfl)
theorem e_pass : dPass ev = .ok .nx ev := (rfl)
theorem e_brk : dBrk ev = .ok .bk ev := (rfl)
theorem e_cnt : dCnt ev = .ok .ct ev := (rfl)
def dropK : T → Ev → R Out := fun _ ev1 => .ok .nx ev1
theorem e_drop : dDrop fa ev = (fa ev).bind dropK := (rfl)
theorem e_dropK : dropK t ev = .ok .nx ev := (rfl)
def retK : T → Ev → R Out := fun t ev1 => .ok (.rt t) ev1
theorem e_ret : dRet fa ev = (fa ev).bind retK := (rfl)
theorem e_retK : retK t ev = .ok (.rt t) ev := (rfl)
theorem e_retN : dRetN ev = .ok (.rt (.vl 0 .non)) ev := (rfl)
def setK (i : Nat) : T → Ev → R Out := fun t ev1 => match t with
  | .vl k d => if i < ev1.length then .ok .nx (ev1.set i (.vl k d)) else .bad
  | .al j => (match fz1 (.al j) ev1 with
    | some (d, ev2) => if i < ev2.length then .ok .nx (ev2.set i (.vl 0 d)) else .bad
    | none => .bad)
theorem e_set : dSet i fa ev = (fa ev).bind (setK i) := (rfl)
theorem e_setK (h : i < ev.length) : setK i (.vl k d) ev = .ok .nx (ev.set i (.vl k d)) := if_pos h
theorem e_setKa (h : fz1 (.al j) ev = some (d, ev1)) (h2 : i < ev1.length) : setK i (.al j) ev = .ok .nx (ev1.set i (.vl 0 d)) := by
  unfold setK
  simp only [h, if_pos h2]
def asgK (b : D → Ev → Option Ev) : T → Ev → R Out := fun t ev1 => match fz1 t ev1 with
  | some (d, ev2) => (match b d ev2 with
    | some ev3 => .ok .nx ev3
    | none => .bad)
  | none => .bad
theorem e_asg : dAsg b fa ev = (fa ev).bind (asgK b) := (rfl)
def parK (i j : Nat) : List T → Ev → R Out := fun ts ev1 => match ts with
  | [t, u] => (match fz1 t ev1 with
    | some (d, ev2) => (match fz1 u ev2 with
      | some (e, ev3) => if i < ev3.length ∧ j < ev3.length then .ok .nx ((ev3.set i (.vl 0 d)).set j (.vl 0 e)) else .bad
      | none => .bad)
    | none => .bad)
  | _ => .bad
theorem e_par : dPar i j fr ev = (fr ev).bind (parK i j) := (rfl)
theorem e_parK (h : i < ev.length ∧ j < ev.length) {k' : Nat} : parK i j [.vl k d, .vl k' e] ev = .ok .nx ((ev.set i (.vl 0 d)).set j (.vl 0 e)) := if_pos h
def augK (i : Nat) (f : D → D → Option (Nat × D)) (d : D) : T → Ev → R Out := fun t ev1 => match t.rd ev1 with
  | some e => (match f d e with
    | some (k, z) => if i < ev1.length then .ok .nx (ev1.set i (.vl k z)) else .bad
    | none => .bad)
  | none => .bad
def augL (i : Nat) (f : D → D → Option (Nat × D)) (fa : Ev → R T) (ev : Ev) : Option Sl → R Out
  | some (.vl 0 d) => (fa ev).bind (augK i f d)
  | _ => .bad
theorem e_aug : dAug i f fa ev = augL i f fa ev ev[i]? := by
  unfold dAug augL
  generalize ev[i]? = o
  cases o with
  | none => rfl
  | some s => cases s with
    | un => rfl
    | io k d => rfl
    | vl k d => cases k <;> rfl
theorem e_augL : augL i f fa ev (some (.vl 0 d)) = (fa ev).bind (augK i f d) := (rfl)
def appK (i : Nat) : T → Ev → R Out := fun t ev1 => match fz1 t ev1 with
  | none => .bad
  | some (d, ev2) => (match ev2[i]? with
    | none => .bad
    | some s => (match s.o1 with
      | none => .bad
      | some ds => if ds.length < 1000000 then .ok .nx (ev2.set i (s.re (.lst (ds ++ [d])))) else .bad))
def appL (i : Nat) (fa : Ev → R T) (ev : Ev) : Option (List D) → R Out
  | some _ => (fa ev).bind (appK i)
  | none => .bad
theorem e_app : dApp i fa ev = appL i fa ev ((ev[i]?).bind Sl.o1) := by
  unfold dApp appL
  cases (ev[i]?).bind Sl.o1 <;> rfl
theorem e_appL : appL i fa ev (some ds) = (fa ev).bind (appK i) := (rfl)
def augIK (i : Nat) (f : D → D → Option (Nat × D)) (fa : Ev → R T) : T → Ev → R Out := fun u ev1 => match u.rd ev1 with
    | some (.int n) => (match (ev1[i]?).bind Sl.o1 with
      | none => .bad
      | some ds0 => (match atI ds0 n with
        | none => .bad
        | some d0 => (fa ev1).bind fun t ev2 => match t.rd ev2 with
          | none => .bad
          | some e => (match f d0 e with
            | some (0, z) => (match ev2[i]? with
              | none => .bad
              | some s => (match s.o1 with
                | none => .bad
                | some ds => (match ixN ds.length n with
                  | none => .bad
                  | some j => .ok .nx (ev2.set i (s.re (.lst (ds.set j z)))))))
            | _ => .bad)))
    | _ => .bad
def augI2 (i : Nat) (f : D → D → Option (Nat × D)) (n : Int) (d0 : D) : T → Ev → R Out := fun t ev2 => match t.rd ev2 with
          | none => .bad
          | some e => (match f d0 e with
            | some (0, z) => (match ev2[i]? with
              | none => .bad
              | some s => (match s.o1 with
                | none => .bad
                | some ds => (match ixN ds.length n with
                  | none => .bad
                  | some j => .ok .nx (ev2.set i (s.re (.lst (ds.set j z)))))))
            | _ => .bad)
def augI1 (i : Nat) (f : D → D → Option (Nat × D)) (fa : Ev → R T) (n : Int) (ev1 : Ev) : Option D → R Out
  | some d0 => (fa ev1).bind (augI2 i f n d0)
  | none => .bad
def augI0 (i : Nat) (f : D → D → Option (Nat × D)) (fa : Ev → R T) (n : Int) (ev1 : Ev) : Option (List D) → R Out
  | some ds => augI1 i f fa n ev1 (atI ds n)
  | none => .bad
def augIR (i : Nat) (f : D → D → Option (Nat × D)) (fa : Ev → R T) (ev1 : Ev) : Option D → R Out
  | some (.int n) => augI0 i f fa n ev1 ((ev1[i]?).bind Sl.o1)
  | _ => .bad
def augIL (i : Nat) (fi : Ev → R T) (f : D → D → Option (Nat × D)) (fa : Ev → R T) (ev : Ev) : Option (List D) → R Out
  | some _ => (fi ev).bind (augIK i f fa)
  | none => .bad
theorem e_augI : dAugI i fb f fa ev = augIL i fb f fa ev ((ev[i]?).bind Sl.o1) := by
  unfold dAugI augIL
  cases (ev[i]?).bind Sl.o1 <;> rfl
theorem e_augIL : augIL i fb f fa ev (some ds) = (fb ev).bind (augIK i f fa) := (rfl)
theorem e_augIK : augIK i f fa u ev1 = augIR i f fa ev1 (u.rd ev1) := by
  unfold augIK augIR
  cases u.rd ev1 with
  | none => rfl
  | some d =>
    cases d with
    | int n =>
      simp only [augI0]
      cases (ev1[i]?).bind Sl.o1 with
      | none => rfl
      | some ds0 =>
        simp only [augI1]
        cases atI ds0 n <;> rfl
    | _ => rfl
theorem e_augIR {n : Int} : augIR i f fa ev1 (some (.int n)) = augI0 i f fa n ev1 ((ev1[i]?).bind Sl.o1) := (rfl)
theorem e_augI0 {n : Int} : augI0 i f fa n ev1 (some ds) = augI1 i f fa n ev1 (atI ds n) := (rfl)
theorem e_augI1 {n : Int} : augI1 i f fa n ev1 (some d) = (fa ev1).bind (augI2 i f n d) := (rfl)
def setIK (i : Nat) (fi : Ev → R T) : T → Ev → R Out := fun t ev1 => match (ev1[i]?).bind Sl.o1 with
  | none => .bad
  | some _ => (fi ev1).bind fun u ev2 => match u.rd ev2 with
    | some (.int n) => (match fz1 t ev2 with
      | none => .bad
      | some (d, ev3) => (match ev3[i]? with
        | none => .bad
        | some s => (match s.o1 with
          | none => .bad
          | some ds => (match ixN ds.length n with
            | none => .bad
            | some j => .ok .nx (ev3.set i (s.re (.lst (ds.set j d))))))))
    | _ => .bad
def setIK2 (i : Nat) (t : T) : T → Ev → R Out := fun u ev2 => match u.rd ev2 with
  | some (.int n) => (match fz1 t ev2 with
    | none => .bad
    | some (d, ev3) => (match ev3[i]? with
      | none => .bad
      | some s => (match s.o1 with
        | none => .bad
        | some ds => (match ixN ds.length n with
          | none => .bad
          | some j => .ok .nx (ev3.set i (s.re (.lst (ds.set j d))))))))
  | _ => .bad
theorem e_setI : dSetI i fb fa ev = (fa ev).bind (setIK i fb) := (rfl)
def setIL (i : Nat) (fi : Ev → R T) (t : T) (ev : Ev) : Option (List D) → R Out
  | some _ => (fi ev).bind (setIK2 i t)
  | none => .bad
theorem e_setIK : setIK i fb t ev = setIL i fb t ev ((ev[i]?).bind Sl.o1) := by
  unfold setIK setIL
  cases (ev[i]?).bind Sl.o1 <;> rfl
theorem e_setIL : setIL i fb t ev (some ds) = (fb ev).bind (setIK2 i t) := (rfl)
def forK (b : D → Ev → Option Ev) (body : Ev → R Out) : List D → Ev → R Out := fun ds ev1 => dLoop b body ds ev1
theorem e_for : dFor fi b body ev = (fi ev).bind (forK b body) := (rfl)
theorem e_forK : forK b body ds ev = dLoop b body ds ev := (rfl)
def itK : T → Ev → R (List D) := fun t ev1 => match fz1 t ev1 with
  | some (.lst ds, ev2) => .ok ds ev2
  | some (.fls ds, ev2) => .ok ds ev2
  | some (.tup ds, ev2) => .ok ds ev2
  | some (.str s, ev2) => .ok (s.map fun c => .str [c]) ev2
  | _ => .bad
theorem e_it : dIt fa ev = (fa ev).bind itK := (rfl)
def rng1K : List T → Ev → R (List D) := fun ts ev1 => match rds ts ev1 with
  | some [.int n] => if -1000000 ≤ n ∧ n ≤ 1000000 then .ok (intsFrom 0 n.toNat) ev1 else .bad
  | _ => .bad
def rng2K : List T → Ev → R (List D) := fun ts ev1 => match rds ts ev1 with
  | some [.int a, .int n] => if -1000000 ≤ a ∧ a ≤ 1000000 ∧ -1000000 ≤ n ∧ n ≤ 1000000 then .ok (intsFrom a (n - a).toNat) ev1 else .bad
  | _ => .bad
theorem e_rng1 : dRng1 fr ev = (fr ev).bind rng1K := (rfl)
theorem e_rng2 : dRng2 fr ev = (fr ev).bind rng2K := (rfl)
theorem pick_nil' {α : Type} {l : List α} : pick [] l = [] := rfl
theorem e_rng1K {n : Int} (h : -1000000 ≤ n ∧ n ≤ 1000000) : rng1K [.vl k (.int n)] ev = if k ≤ 1 then .ok (intsFrom 0 n.toNat) ev else rng1K [.vl k (.int n)] ev := by
  match k with
  | 0 => rw [if_pos (Nat.zero_le _)]; exact if_pos h
  | 1 => rw [if_pos (Nat.le_refl _)]; exact if_pos h
  | k + 2 => rw [if_neg (by omega)]
def loopK (b : D → Ev → Option Ev) (body : Ev → R Out) (ds : List D) : R Out → R Out
  | .ok .nx ev2 => dLoop b body ds ev2
  | .ok .ct ev2 => dLoop b body ds ev2
  | .ok .bk ev2 => .ok .nx ev2
  | r => r
theorem e_loop0 : dLoop b body [] ev = .ok .nx ev := (rfl)
theorem e_loop (h : b d ev = some ev1) : dLoop b body (d :: ds) ev = loopK b body ds (body ev1) := by
  rw [dLoop]
  simp only [h]
  cases e : body ev1 with
  | bad => rfl
  | exc _ _ _ => rfl
  | ok o ev2 => cases o <;> rfl
theorem e_loopN : loopK b body ds (.ok .nx ev) = dLoop b body ds ev := (rfl)
theorem e_loopC : loopK b body ds (.ok .ct ev) = dLoop b body ds ev := (rfl)
theorem e_loopB : loopK b body ds (.ok .bk ev) = .ok .nx ev := (rfl)
theorem e_loopR : loopK b body ds (.ok (.rt t) ev) = .ok (.rt t) ev := (rfl)
/-! comprehensions -/
def lcK (b : D → Ev → Option Ev) (ft : Ev → R Bool) (fe : Ev → R T) (vs : List Nat) : List D → Ev → R T := fun ds ev1 => if ds.length ≤ 1000000 then (match dLcL b ft fe vs ds [] ev1 with
  | .ok acc e => .ok (.vl 1 (.lst acc)) (restE ev1 vs (wipeE e vs))
  | _ => .bad) else .bad
theorem e_lc : dLc fi b ft fa vs ev = (fi ev).bind (lcK b ft fa vs) := (rfl)
theorem e_yes : dYes ev = .ok true ev := (rfl)
/-- one turn of a comprehension that reads only: the env E (own names wiped) stays -/
def LcP (b : D → Ev → Option Ev) (ft : Ev → R Bool) (fe : Ev → R T) (vs : List Nat) (E : Ev) (p : D → Bool) (f : D → D) (d : D) : Prop :=
  ∃ e1 e2, b d E = some e1 ∧ ft e1 = .ok (p d) e2 ∧ ((p d = true ∧ ∃ t e3 e4, fe e2 = .ok t e3 ∧ fz1 t e3 = some (f d, e4) ∧ wipeE e4 vs = E) ∨ (p d = false ∧ wipeE e2 vs = E))
theorem lcL_eval {p : D → Bool} {f : D → D} {E : Ev} : ∀ (ds acc : List D) (e : Ev), wipeE e vs = E → (∀ d ∈ ds, LcP b ft fa vs E p f d) → ∃ e', dLcL b ft fa vs ds acc e = .ok (acc ++ (ds.filter p).map f) e' ∧ wipeE e' vs = E
  | [], acc, e, h, _ => ⟨e, by show R.ok acc e = _; simp, h⟩
  | d :: ds, acc, e, h, hd => by
    obtain ⟨e1, e2, h1, h2, h3⟩ := hd d (List.mem_cons_self ..)
    have hr := fun x hx => hd x (List.mem_cons_of_mem _ hx)
    unfold dLcL
    rw [h, h1]
    simp only [h2, R.bind_ok]
    rcases h3 with ⟨hp, t, e3, e4, h4, h5, h6⟩ | ⟨hp, h6⟩
    · obtain ⟨e', g1, g2⟩ := lcL_eval ds (acc ++ [f d]) e4 h6 hr
      refine ⟨e', ?_, g2⟩
      rw [hp, if_pos rfl, h4]
      simp only [R.bind_ok, h5]
      rw [g1]
      simp [hp]
    · obtain ⟨e', g1, g2⟩ := lcL_eval ds acc e2 h6 hr
      refine ⟨e', ?_, g2⟩
      rw [hp, if_neg Bool.false_ne_true, g1]
      simp [hp]
theorem lc_eval {p : D → Bool} {f : D → D} (E : Ev) (hl : ds.length ≤ 1000000) (hE : wipeE ev vs = E) (h : ∀ d ∈ ds, LcP b ft fa vs E p f d) : lcK b ft fa vs ds ev = .ok (.vl 1 (.lst ((ds.filter p).map f))) (restE ev vs E) := by
  unfold lcK
  rw [if_pos hl]
  obtain ⟨e', g1, g2⟩ := lcL_eval ds [] ev hE h
  rw [g1]
  simp only [g2, List.nil_append]
/-- without an if -/
theorem lc_map {f : D → D} (E : Ev) (hl : ds.length ≤ 1000000) (hE : wipeE ev vs = E) (h : ∀ d ∈ ds, ∃ e1 t e3 e4, b d E = some e1 ∧ fa e1 = .ok t e3 ∧ fz1 t e3 = some (f d, e4) ∧ wipeE e4 vs = E) : lcK b dYes fa vs ds ev = .ok (.vl 1 (.lst (ds.map f))) (restE ev vs E) := by
  have := lc_eval (ft := dYes) (p := fun _ => true) (f := f) E hl hE fun d hd => by
    obtain ⟨e1, t, e3, e4, h1, h2, h3, h4⟩ := h d hd
    exact ⟨e1, e1, h1, rfl, .inl ⟨rfl, t, e3, e4, h2, h3, h4⟩⟩
  rw [this, List.filter_eq_self.mpr (fun _ _ => rfl)]
/-! what is read -/
def rdS : Option Sl → Option D
  | some (.vl 0 d) => some d
  | some (.vl 1 d) => some d
  | some (.io 0 d) => some d
  | some (.io 1 d) => some d
  | _ => none
theorem e_rd0 : (T.vl 0 d).rd ev = some d := (rfl)
theorem e_rd1 : (T.vl 1 d).rd ev = some d := (rfl)
theorem e_rda : (T.al i).rd ev = rdS ev[i]? := by
  simp only [T.rd, T.kd]
  generalize ev[i]? = o
  cases o with
  | none => rfl
  | some s =>
    cases s with
    | un => rfl
    | vl k d => match k with
      | 0 => rfl
      | 1 => rfl
      | k + 2 => rfl
    | io k d => match k with
      | 0 => rfl
      | 1 => rfl
      | k + 2 => rfl
theorem e_rdS0 : rdS (some (.vl 0 d)) = some d := (rfl)
theorem e_rdS1 : rdS (some (.vl 1 d)) = some d := (rfl)
theorem e_rdS2 : rdS (some (.io 0 d)) = some d := (rfl)
theorem e_rdS3 : rdS (some (.io 1 d)) = some d := (rfl)
def opv (f : D → D → Option (Nat × D)) : Option D → Option D → Option (Nat × D)
  | some d, some e => f d e
  | _, _ => none
def chM (g : D → D → Option (Nat × D)) (fc : Ev → R T) (u : T) (ev : Ev) : Option (Nat × D) → R T
  | some (0, .bl b) => chK3 g fc u ev b
  | _ => .bad
theorem e_chM : chK2 f g fc t u ev = chM g fc u ev (opv f (t.rd ev) (u.rd ev)) := by
  unfold chK2 opv
  cases t.rd ev with
  | none => rfl
  | some d =>
    cases u.rd ev with
    | none => rfl
    | some e =>
      simp only
      split
      · rename_i b e2
        rw [e2]
        cases b <;> rfl
      · rename_i h
        unfold chM
        split
        · rename_i b e2
          exact absurd e2 (h b)
        · rfl
theorem e_chMb : chM g fc u ev (some (0, .bl c)) = chK3 g fc u ev c := (rfl)
theorem e_opv : opv f (some d) (some e) = f d e := (rfl)
/-! data -/
section
variable {a b : Int} {s z : List Nat} {xs ys : List D} {p q : Bool}
theorem v_add : addD (.int a) (.int b) = some (0, .int (a + b)) := (rfl)
theorem v_sub : subD (.int a) (.int b) = some (0, .int (a - b)) := (rfl)
theorem v_neg : negD (.int a) = some (0, .int (-a)) := (rfl)
theorem v_iadd : iaddD (.int a) (.int b) = some (0, .int (a + b)) := (rfl)
theorem v_lt : ltD (.int a) (.int b) = some (0, .bl (decide (a < b))) := (rfl)
theorem v_gt : gtD (.int a) (.int b) = some (0, .bl (decide (b < a))) := (rfl)
theorem v_le : leD (.int a) (.int b) = some (0, .bl (decide (a ≤ b))) := (rfl)
theorem v_ge : geD (.int a) (.int b) = some (0, .bl (decide (b ≤ a))) := (rfl)
theorem v_eqi : eqD (.int a) (.int b) = some (0, .bl (a == b)) := (rfl)
theorem v_eqs : eqD (.str s) (.str z) = some (0, .bl (s == z)) := (rfl)
theorem v_eqb : eqD (.bl p) (.bl q) = some (0, .bl (p == q)) := (rfl)
theorem v_nei : neD (.int a) (.int b) = some (0, .bl (!(a == b))) := (rfl)
theorem v_nes : neD (.str s) (.str z) = some (0, .bl (!(s == z))) := (rfl)
theorem v_neb : neD (.bl p) (.bl q) = some (0, .bl (!(p == q))) := (rfl)
theorem v_isn : isN d .non = some (0, .bl (isnB d)) := (rfl)
theorem v_notn : notN d .non = some (0, .bl (!isnB d)) := (rfl)
theorem v_int : intD [.int a] = some (0, .int a) := (rfl)
theorem v_intb : intD [.bl p] = some (0, .int (if p then 1 else 0)) := (rfl)
theorem v_abs : absD [.int a] = some (0, .int (if a < 0 then -a else a)) := (rfl)
theorem v_max : max2D [.int a, .int b] = some (0, .int (if b > a then b else a)) := (rfl)
theorem v_min : min2D [.int a, .int b] = some (0, .int (if b < a then b else a)) := (rfl)
theorem v_lenl : lenD [.lst xs] = some (0, .int xs.length) := (rfl)
theorem v_lenf : lenD [.fls xs] = some (0, .int xs.length) := (rfl)
theorem v_lent : lenD [.tup xs] = some (0, .int xs.length) := (rfl)
theorem v_lens (h : s.length ≤ 16777216) : lenD [.str s] = some (0, .int s.length) := if_pos h
theorem v_tupl : tupD [.lst xs] = some (0, .tup xs) := (rfl)
theorem v_tupt : tupD [.tup xs] = some (0, .tup xs) := (rfl)
theorem v_tups (h : s.length ≤ 16777216) : tupD [.str s] = some (0, .tup (s.map fun c => .str [c])) := if_pos h
theorem v_listl : listD [.lst xs] = some (1, .lst xs) := (rfl)
theorem v_listf : listD [.fls xs] = some (1, .lst xs) := (rfl)
theorem v_listt : listD [.tup xs] = some (1, .lst xs) := (rfl)
theorem v_revl : revD (.lst xs) = some (1, .lst xs.reverse) := (rfl)
theorem v_revs (h : s.length ≤ 16777216) : revD (.str s) = some (0, .str s.reverse) := if_pos h
theorem v_sll {lo hi : Option Int} : slD (.lst xs) lo hi = some (1, .lst (cut xs lo hi)) := (rfl)
theorem v_slt {lo hi : Option Int} : slD (.tup xs) lo hi = some (0, .tup (cut xs lo hi)) := (rfl)
theorem v_sls {lo hi : Option Int} (h : s.length ≤ 16777216) : slD (.str s) lo hi = some (0, .str (cut s lo hi)) := if_pos h
theorem v_adds (h : s.length + z.length ≤ 16777216) : addD (.str s) (.str z) = some (0, .str (s ++ z)) := if_pos h
theorem v_addl (h : xs.length + ys.length ≤ 16777216) : addD (.lst xs) (.lst ys) = some (1, .lst (xs ++ ys)) := if_pos h
theorem v_addt (h : xs.length + ys.length ≤ 16777216) : addD (.tup xs) (.tup ys) = some (0, .tup (xs ++ ys)) := if_pos h
theorem v_in1 {n : Nat} : inD (.str [n]) (.str s) = some (0, .bl (decide (n ∈ s))) := (rfl)
theorem v_low (h1 : asc s = true) (h2 : s.length ≤ 5592405) : lowD (.str s) [] = some (0, .str (s.map lo1)) := if_pos ⟨h1, h2⟩
theorem v_upp (h1 : asc s = true) (h2 : s.length ≤ 5592405) : uppD (.str s) [] = some (0, .str (s.map up1)) := if_pos ⟨h1, h2⟩
theorem v_swc (h1 : asc s = true) (h2 : s.length ≤ 5592405) : swcD (.str s) [] = some (0, .str (s.map sw1)) := if_pos ⟨h1, h2⟩
theorem v_isup (h1 : asc s = true) : isupD (.str s) [] = some (0, .bl (s.any isUp && !s.any isLo)) := if_pos h1
theorem v_cnt {n : Nat} : countD (.str s) [.str [n]] = some (0, .int (s.count n)) := (rfl)
theorem v_idx {n : Nat} (h : n ∈ s) : indexD (.str s) [.str [n]] = some (0, .int (s.idxOf n)) := if_pos h
end
/-! a def -/
def finK (args : List Sl) : R Out → R (Nat × D)
  | .ok .nx e => .ok (0, .non) (fins args e)
  | .ok (.rt (.vl k d)) e => .ok (k, d) (fins args e)
  | .ok (.rt (.al i)) e => (match e[i]? with
    | some (.vl k d) => .ok (k, d) (fins args (e.set i .un))
    | _ => .bad)
  | .exc n d e => .exc n d (fins args e)
  | _ => .bad
theorem e_den {P : List Nat} {args : List Sl} {np n : Nat} {g : Ev → R Out} (h1 : args.length = np) (h2 : argOk P 0 args = true) : denOf P np n g args = finK args (g (args ++ List.replicate (n - np) .un)) := by
  unfold denOf
  rw [if_pos ⟨h1, h2⟩]
  cases g (args ++ List.replicate (n - np) .un) with
  | bad => rfl
  | exc _ _ _ => rfl
  | ok o e =>
    cases o with
    | rt t => cases t <;> rfl
    | _ => rfl
theorem e_finN {args : List Sl} : finK args (.ok .nx ev) = .ok (0, .non) (fins args ev) := (rfl)
theorem e_finR {args : List Sl} : finK args (.ok (.rt (.vl k d)) ev) = .ok (k, d) (fins args ev) := (rfl)
theorem e_finA {args : List Sl} (h : ev[i]? = some (.vl k d)) : finK args (.ok (.rt (.al i)) ev) = .ok (k, d) (fins args (ev.set i .un)) := by
  unfold finK
  simp only [h]
end
end DN

set_option Elab.async false
set_option linter.all false
set_option maxRecDepth 100000
set_option maxHeartbeats 1000000
namespace DN
open PySem PySem.Spec PyProof.Rows L2
/-- xs.pop(n) -/
def dPopI (i : Nat) (fa : Ev → R T) : Ev → R T := fun ev => match (ev[i]?).bind Sl.o1 with
  | none => .bad
  | some _ => (fa ev).bind fun u ev1 => match u.rd ev1 with
    | some (.int n) => (match ev1[i]? with
      | none => .bad
      | some s => (match s.o1 with
        | none => .bad
        | some ds => (match ixN ds.length n with
          | none => .bad
          | some j => (match ds[j]? with
            | none => .bad
            | some d => if -9223372036854775808 ≤ n ∧ n < 9223372036854775808 then .ok (.vl 0 d) (ev1.set i (s.re (.lst (ds.eraseIdx j)))) else .bad))))
    | _ => .bad
theorem Rzs.eraseIdx {K : PySem.W.Frag} {F : Hp} : ∀ {ds : List D} {xs : List V} (n : Nat), Rzs K F xs ds → Rzs K F (xs.eraseIdx n) (ds.eraseIdx n)
  | [], xs, n, h => by have h : xs = [] := h; subst h; exact rfl
  | d :: ds, xs, 0, h => by obtain ⟨x, r, rfl, h1, h2⟩ := h; exact h2
  | d :: ds, xs, n + 1, h => by
    obtain ⟨x, r, rfl, h1, h2⟩ := h
    exact ⟨x, _, rfl, h1, Rzs.eraseIdx n h2⟩
section
variable {K : PySem.W.Frag} {xm : XM} {ta : TE} {fa : Ev → R T} {i : Nat}
theorem we_popI (ha : WE K xm ta fa) : WE K xm (tBM K "list" rPopAt (tVar i) (tCons ta tNil)) (dPopI i fa) := by
  intro σ τ H ev hl hr0
  unfold dPopI
  split
  · trivial
  · rename_i ds0 e0
    obtain ⟨s0, e1, e2⟩ := bind_o1 e0
    obtain ⟨a, xs0, hv, ha0, hlen0, _⟩ := slot_at hl hr0 e1 e2
    refine Res.imp (c := fun Q => ta σ H fun u H1 => rPopAt (.ref a) [u] H1 Q) (Res.bindC (k := fun u H1 Q => rPopAt (.ref a) [u] H1 Q) (ha σ τ H ev hl hr0) fun u vu ev1 H1 _ hl1 hr1 ho1 => ?_) fun Q q => ⟨.ref a, hv, tyV_list ha0, q⟩
    split
    · rename_i n e3
      obtain ⟨F, A, c⟩ := id hr1
      have hn : vu = .int n := rd_ef c (mem_ent σ vu u _) ho1 e3
      subst hn
      split
      · trivial
      · rename_i s e5
        split
        · trivial
        · rename_i ds e6
          split
          · trivial
          · rename_i j e7
            split
            · trivial
            · rename_i d e8
              split
              case isFalse => trivial
              rename_i hb
              intro Q q
              have hr2 : Rp K H1 (σ.zip ev1 ++ τ) := hr1.sub (sub_app (List.sublist_append_right _ _))
              obtain ⟨a', xs, hv', ha', hlen, hr3⟩ := slot_at hl1 hr2 e5 e6
              rw [hv] at hv'
              cases hv'
              have hj : j < xs.length := by rw [hlen]; exact (List.getElem?_eq_some_iff.mp e8).1
              obtain ⟨y, hy⟩ : ∃ y, xs[j]? = some y := ⟨xs[j], List.getElem?_eq_getElem hj⟩
              have hr4 := pick_frE hy e8 hr3
              have r := slot_wr (xs' := xs.eraseIdx j) (ds' := ds.eraseIdx j) hl1 hr4 e5 e6 hv ha' fun F h1 h2 => h1.eraseIdx j
              refine ⟨a, xs, n, j, y, rfl, rfl, ha', by omega, by omega, ?_, hy, ?_⟩
              · rw [hlen]; exact (ixN_seq e7).1
              · exact q y _ (by rw [List.length_set]; exact hl1) r trivial
    · trivial
end
section
variable {X : Cx} {xm : XM} {x : Str} {p apos cpos : Pos} {e : Expr} {fa : Ev → R T}
theorem px_popI {i : Nat} (he : PX X xm e fa) (hN : X.N[i]? = some x := by rfl) (hv : Vis X.env.scope x := by first | exact Or.inl rfl | exact Or.inr (Or.inl rfl) | exact Or.inr (Or.inr rfl)) (hd : (x == ("__debug__" : Str)) = false := by decide)
    (hcd : (x == ("__classdict__" : Str)) = false := by decide) (hbase : attributeBase (.Name x p) "pop" X.env (eval (.Name x p) X.env) = eval (.Name x p) X.env := by rfl)
    (hfew : ((backTo cpos (starEach [e] X.env)).all (fun x => !x.1) && (backToKw cpos (keywordEach [] X.env)).all (fun x => x.1.isSome)
      && decide ([e].length + ([] : List Keyword).length + (if ([] : List Keyword).isEmpty then 0 else 1) < 30)) = true := by rfl)
    (hline : (apos.endLine == cpos.line) = true := by rfl) (hs : starEach [e] X.env = (false, eval e X.env) :: starEach [] X.env := by rfl) (hplain : (backTo cpos (starEach [] X.env)).any (·.1) = false := by rfl) :
    PX X xm (.Call (.Attribute (.Name x p) "pop" apos) [e] [] cpos) (dPopI i fa) :=
  PX.of (pe_bm PySem.F.plainAttrs_list PySem.F.slot_list_pop PySem.F.type_list_pop mt_popAt (pe_var hN hv hd hcd) (pa_cons he pa_nil hs) hbase hfew hline hs hplain) (we_popI (we_can _))
end
/-! step by step -/
section
variable {fa : Ev → R T} {ev ev1 : Ev} {i j : Nat} {u : T} {ds : List D} {d : D} {s : Sl} {n : Int}
def popIK (i : Nat) : T → Ev → R T := fun u ev1 => match u.rd ev1 with
    | some (.int n) => (match ev1[i]? with
      | none => .bad
      | some s => (match s.o1 with
        | none => .bad
        | some ds => (match ixN ds.length n with
          | none => .bad
          | some j => (match ds[j]? with
            | none => .bad
            | some d => if -9223372036854775808 ≤ n ∧ n < 9223372036854775808 then .ok (.vl 0 d) (ev1.set i (s.re (.lst (ds.eraseIdx j)))) else .bad))))
    | _ => .bad
def popIL (i : Nat) (fa : Ev → R T) (ev : Ev) : Option (List D) → R T
  | some _ => (fa ev).bind (popIK i)
  | none => .bad
theorem e_popI : dPopI i fa ev = popIL i fa ev ((ev[i]?).bind Sl.o1) := by
  unfold dPopI popIL
  cases (ev[i]?).bind Sl.o1 <;> rfl
theorem e_popIL : popIL i fa ev (some ds) = (fa ev).bind (popIK i) := (rfl)
theorem e_popIK {j : Nat} (h1 : u.rd ev = some (.int (j : Int))) (h2 : ev[i]? = some s) (h3 : s.o1 = some ds) (h4 : ds[j]? = some d) (h5 : j < 1000000) : popIK i u ev = .ok (.vl 0 d) (ev.set i (s.re (.lst (ds.eraseIdx j)))) := by
  unfold popIK
  have hj : j < ds.length := (List.getElem?_eq_some_iff.mp h4).1
  have e : ixN ds.length (j : Int) = some j := by
    unfold ixN
    rw [if_pos (by omega), if_pos (by omega)]
    simp
  simp only [h1, h2, h3, e, h4]
  rw [if_pos (by omega)]
/-! while -/
section
variable {ft : Ev → R Bool} {body : Ev → R Out} {ev ev1 : Ev} {n : Nat} {t : T}
def whB (ft : Ev → R Bool) (body : Ev → R Out) (n : Nat) : R Out → R Out
  | .ok .nx ev2 => dWh ft body n ev2
  | .ok .ct ev2 => dWh ft body n ev2
  | .ok .bk ev2 => .ok .nx ev2
  | r => r
def whK (ft : Ev → R Bool) (body : Ev → R Out) (n : Nat) : Bool → Ev → R Out
  | true, ev1 => whB ft body n (body ev1)
  | false, ev1 => .ok .nx ev1
theorem e_wh : dWh ft body (n + 1) ev = (ft ev).bind (whK ft body n) := by
  rw [dWh]
  congr 1
  funext c ev1
  cases c with
  | false => rfl
  | true =>
    show (if true = true then _ else _) = whB ft body n (body ev1)
    rw [if_pos rfl]
    generalize body ev1 = r
    cases r with
    | bad => rfl
    | exc _ _ _ => rfl
    | ok o ev2 => cases o <;> rfl
theorem e_whT : whK ft body n true ev = whB ft body n (body ev) := (rfl)
theorem e_whF : whK ft body n false ev = .ok .nx ev := (rfl)
theorem e_whN : whB ft body n (.ok .nx ev) = dWh ft body n ev := (rfl)
theorem e_whC : whB ft body n (.ok .ct ev) = dWh ft body n ev := (rfl)
theorem e_whX : whB ft body n (.ok .bk ev) = .ok .nx ev := (rfl)
theorem e_whR : whB ft body n (.ok (.rt t) ev) = .ok (.rt t) ev := (rfl)
end
end
/-! a, b = e1, e2 where what is new stays one's own -/
def own1 : T → Ev → Option (Nat × D × Ev)
  | .vl k d, ev => some (k, d, ev)
  | .al i, ev => (fz1 (.al i) ev).map fun p => (0, p.1, p.2)
def dPar2 (i j : Nat) (fr : Ev → R (List T)) : Ev → R Out := fun ev => (fr ev).bind fun ts ev1 => match ts with
  | [t, u] => (match own1 t ev1 with
    | some (k, d, ev2) => (match own1 u ev2 with
      | some (k', e, ev3) => if i < ev3.length ∧ j < ev3.length then .ok .nx ((ev3.set i (.vl k d)).set j (.vl k' e)) else .bad
      | none => .bad)
    | none => .bad)
  | _ => .bad
section
variable {K : PySem.W.Frag} {xm : XM} {P : List Nat} {tr : TA} {fr : Ev → R (List T)}
theorem own1_ok {F H : Hp} {σ : St} {ev ev' : Ev} {l : List Ent} {t : T} {v : V} {k : Nat} {d : D} (hl : ev.length = σ.length) (h : Rp K H (σ.zip ev ++ ((some v, t.sl) :: l))) (ha : t.al? σ v) (hf : own1 t ev = some (k, d, ev')) :
    ev'.length = σ.length ∧ Rp K H (σ.zip ev' ++ ((some v, .vl k d) :: l)) := by
  cases t with
  | vl k' d' => cases hf; exact ⟨hl, h⟩
  | al i =>
    have hf : (fz1 (.al i) ev).map (fun p => ((0 : Nat), p.1, p.2)) = some (k, d, ev') := hf
    cases e : fz1 (.al i) ev with
    | none => rw [e] at hf; cases hf
    | some p =>
      rw [e] at hf
      obtain ⟨d0, e0⟩ := p
      cases hf
      exact fz1_ok hl h ha e
theorem ws_par2 {i j : Nat} (hi : i ∉ P) (hj : j ∉ P) (ha : WA K xm tr fr) : WS K xm P (tPar i j tr) (dPar2 i j fr) := by
  intro σ τ H ev hl hr0
  refine SRes.ofC (k := fun vs H1 D => ∃ v w, vs = [v, w] ∧ D.nx ((σ.set i (some v)).set j (some w)) H1) (ha σ τ H ev hl hr0) fun ts vs ev1 H1 _ hl1 hr1 ho1 => ?_
  intro D w
  split at w
  · rename_i t u _
    match vs, ho1 with
    | [v, v2], ho1 =>
      split at w
      · rename_i k d ev2 e
        split at w
        · rename_i k' e' ev3 e2
          split at w
          · rename_i hlt
            have r1 : Rp K H1 (σ.zip ev1 ++ ((some v, t.sl) :: (some v2, u.sl) :: τ)) := hr1
            obtain ⟨g1, g2⟩ := own1_ok (F := H1) hl1 r1 ho1.1 e
            have r2 : Rp K H1 (σ.zip ev2 ++ ((some v2, u.sl) :: (some v, .vl k d) :: τ)) := g2.perm (List.Perm.append_left _ (List.Perm.swap ..))
            obtain ⟨g3, g4⟩ := own1_ok (F := H1) g1 r2 ho1.2.1 e2
            have r3 : Rp K H1 (σ.zip ev3 ++ ((some v, .vl k d) :: (some v2, .vl k' e') :: τ)) := g4.perm (List.Perm.append_left _ (List.Perm.swap ..))
            obtain ⟨g5, g6⟩ := put_ok g3 hlt.1 r3
            obtain ⟨g7, g8⟩ := put_ok (i := j) g5 (by rw [List.length_set]; exact hlt.2) g6
            exact ⟨v, v2, rfl, w _ _ ((Keep.set hi).trans (Keep.set hj)) g7 g8⟩
          · exact w.elim
        · exact w.elim
      · exact w.elim
  · exact w.elim
end
section
variable {X : Cx} {xm : XM} {P : List Nat} {x y : Str} {fr : Ev → R (List T)} {pos : Pos}
theorem pxs_par2 {i j : Nat} {a b : Expr} {px py pt : Pos} {kt k2 pt2} (hPi : i ∉ P) (hPj : j ∉ P) (hc : X.calm = true) (hN : X.N.Nodup) (hi : X.N[i]? = some x) (hj : X.N[j]? = some y) (hij : i ≠ j)
    (hx : X.env.scope.names.lookup x = some .local) (hy : X.env.scope.names.lookup y = some .local) (ha : PXa X xm [a, b] fr)
    (hw : swappedStores [.Tuple [.Name x px, .Name y py] kt pt] (.Tuple [a, b] k2 pt2) X.env = pure (some [x, y]) := by rfl)
    (hs : swapsWithSole [.Tuple [.Name x px, .Name y py] kt pt] (.Tuple [a, b] k2 pt2) pos.line X.env = pure false := by rfl) :
    PXs X xm P (.Assign [.Tuple [.Name x px, .Name y py] kt pt] (.Tuple [a, b] k2 pt2) pos) (dPar2 i j fr) := PXs.of (ps_par hc hN hi hj hij hx hy ha hw hs) (ws_par2 hPi hPj (wa_can _))
end
section
variable {fr : Ev → R (List T)} {ev : Ev} {i j k k' : Nat} {d e : D}
def par2K (i j : Nat) : List T → Ev → R Out := fun ts ev1 => match ts with
  | [t, u] => (match own1 t ev1 with
    | some (k, d, ev2) => (match own1 u ev2 with
      | some (k', e, ev3) => if i < ev3.length ∧ j < ev3.length then .ok .nx ((ev3.set i (.vl k d)).set j (.vl k' e)) else .bad
      | none => .bad)
    | none => .bad)
  | _ => .bad
theorem e_par2 : dPar2 i j fr ev = (fr ev).bind (par2K i j) := (rfl)
theorem e_par2K (h : i < ev.length ∧ j < ev.length) : par2K i j [.vl k d, .vl k' e] ev = .ok .nx ((ev.set i (.vl k d)).set j (.vl k' e)) := if_pos h
end
end DN

set_option Elab.async false
set_option linter.all false
set_option maxRecDepth 100000
set_option maxHeartbeats 1000000
namespace Wf
open PySem L2 DN
def u_ALPHABET : List Nat := [97, 98, 99, 100, 101, 102, 103, 104, 105, 106, 107, 108, 109, 110, 111, 112, 113, 114, 115, 116, 117, 118, 119, 120, 121, 122]
def g_law_take : Ev → R Out :=
  (dSeq (dIfS (dAnd (dTest (dOp eqD (dOp ixD (dVar 0) (dC (.int 0))) (dC (.int 0)))) (dTest (dOp ltD (dOp ixD (dVar 0) (dC (.int 2))) (dCB lenD (dCons (dVar 0) dNil)))))
    (dSeq (dSet 2 (dOp ixD (dVar 0) (dOp ixD (dVar 0) (dC (.int 2)))))
    (dSeq (dAugI 0 (dC (.int 2)) iaddD (dC (.int 1)))
    (dIfS (dTest (dOp geD (dVar 2) (dOp powD (dC (.int 10)) (dC (.int 18)))))
      (dSetI 0 (dC (.int 0)) (dOp subD (dVar 2) (dOp powD (dC (.int 10)) (dC (.int 18)))))
      (dSeq (dSet 3 (dOp modD (dCB intD (dCons (dVar 2) dNil)) (dC (.int 2147483647))))
      (dSeq (dSet 3 (dOp modD (dCB intD (dCons (dOp addD (dOp addD (dOp mulD (dVar 3) (dVar 3)) (dOp mulD (dC (.int 62089911)) (dVar 3))) (dOp mulD (dC (.int 1301)) (dOp ixD (dVar 0) (dC (.int 2))))) dNil)) (dC (.int 2147483629))))
      (dSetI 0 (dC (.int 1)) (dOp modD (dCB intD (dCons (dOp addD (dOp ixD (dVar 0) (dC (.int 1))) (dVar 3)) dNil)) (dC (.int 2147483629)))))))))
    dPass)
  (dSeq (dIfS (dTest (dOp gtD (dOp ixD (dVar 0) (dC (.int 0))) (dC (.int 0))))
    (dSeq (dSet 4 (dOp modD (dCB intD (dCons (dOp ixD (dVar 0) (dC (.int 0))) dNil)) (dVar 1)))
    (dSeq (dSetI 0 (dC (.int 0)) (dOp fdivD (dOp ixD (dVar 0) (dC (.int 0))) (dVar 1)))
    (dRet (dVar 4))))
    dPass)
  (dSeq (dSetI 0 (dC (.int 1)) (dOp modD (dCB intD (dCons (dOp addD (dOp addD (dOp mulD (dOp ixD (dVar 0) (dC (.int 1))) (dC (.int 41358))) (dOp mulD (dC (.int 31657)) (dOp ixD (dVar 0) (dC (.int 2))))) (dC (.int 23))) dNil)) (dC (.int 2147483647))))
  (dSeq (dSetI 0 (dC (.int 1)) (dOp modD (dCB intD (dCons (dOp addD (dOp mulD (dOp ixD (dVar 0) (dC (.int 1))) (dOp ixD (dVar 0) (dC (.int 1)))) (dC (.int 11))) dNil)) (dC (.int 2147483629))))
  (dRet (dOp modD (dCB intD (dCons (dOp fdivD (dOp ixD (dVar 0) (dC (.int 1))) (dC (.int 8))) dNil)) (dVar 1)))))))
def den_law_take : FN := denOf [0] 2 5 g_law_take
def g_law_signs : Ev → R Out :=
  (dRet (dBM "str" joinD (dC (.str [])) (dCons (dLc (dIt (dSl slD (dC (.str [97, 98, 99, 100, 101, 102, 103, 104, 105, 106, 107, 108, 109, 110, 111, 112, 113, 114, 115, 116, 117, 118, 119, 120, 121, 122])) dNoPart (dPart (dVar 0)))) (bName 1) dYes (dOp addD (dVar 1) (dBM "str" uppD (dVar 1) dNil)) [1]) dNil)))
def den_law_signs : FN := denOf [] 1 2 g_law_signs
def g_law_back : Ev → R Out :=
  (dRet (dIf (dTest (dOp eqD (dVar 0) (dBM "str" lowD (dVar 0) dNil))) (dBM "str" uppD (dVar 0) dNil) (dBM "str" lowD (dVar 0) dNil)))
def den_law_back : FN := denOf [] 1 1 g_law_back
def g_law_tight : Ev → R Out :=
  (dSeq (dAsg (bTup 2 (bCons (bName 3) (bCons (bName 4) bNil))) (dTupE (dCons (dCall den_law_signs [false] (dCons (dVar 1) dNil)) (dCons (dC (.str [])) dNil))))
  (dSeq (dFor (dRng1 (dCons (dVar 2) dNil)) (bName 5)
    (dSeq (dSet 6 (dLc (dIt (dVar 3)) (bName 7) (dOr (dTest (dOp eqD (dVar 4) (dC (.str [])))) (dTest (dOp neD (dVar 7) (dCall den_law_back [false] (dCons (dOp ixD (dVar 4) (dUn negD (dC (.int 1)))) dNil))))) (dVar 7) [7]))
    (dSet 4 (dOp addD (dVar 4) (dOp ixD (dVar 6) (dCall den_law_take [true, false] (dCons (dVar 0) (dCons (dCB lenD (dCons (dVar 6) dNil)) dNil))))))))
  (dRet (dVar 4))))
def den_law_tight : FN := denOf [0] 3 8 g_law_tight
def g_law_spread : Ev → R Out :=
  (dSeq (dSet 4 (dCall den_law_signs [false] (dCons (dVar 1) dNil)))
  (dSeq (dFor (dRng1 (dCons (dVar 3) dNil)) (bName 5)
    (dSeq (dPar 6 7 (dCons (dCall den_law_take [true, false] (dCons (dVar 0) (dCons (dOp addD (dCB lenD (dCons (dVar 2) dNil)) (dC (.int 1))) dNil))) (dCons (dOp ixD (dVar 4) (dCall den_law_take [true, false] (dCons (dVar 0) (dCons (dOp mulD (dC (.int 2)) (dVar 1)) dNil)))) dNil)))
    (dSet 2 (dOp addD (dOp addD (dOp addD (dSl slD (dVar 2) dNoPart (dPart (dVar 6))) (dVar 7)) (dCall den_law_back [false] (dCons (dVar 7) dNil))) (dSl slD (dVar 2) (dPart (dVar 6)) dNoPart)))))
  (dRet (dVar 2))))
def den_law_spread : FN := denOf [0] 4 8 g_law_spread
def g_law_loose : Ev → R Out :=
  (dSeq (dSet 3 (dCall den_law_signs [false] (dCons (dVar 1) dNil)))
  (dRet (dBM "str" joinD (dC (.str [])) (dCons (dLc (dRng1 (dCons (dVar 2) dNil)) (bName 4) dYes (dOp ixD (dVar 3) (dCall den_law_take [true, false] (dCons (dVar 0) (dCons (dOp mulD (dC (.int 2)) (dVar 1)) dNil)))) [4]) dNil))))
def den_law_loose : FN := denOf [0] 3 5 g_law_loose
def g_law_red : Ev → R Out :=
  (dSeq (dSet 1 (dC (.str [])))
  (dSeq (dFor (dIt (dVar 0)) (bName 2)
    (dSet 1 (dIf (dAnd (dTest (dOp neD (dVar 1) (dC (.str [])))) (dTest (dOp eqD (dOp ixD (dVar 1) (dUn negD (dC (.int 1)))) (dCall den_law_back [false] (dCons (dVar 2) dNil))))) (dSl slD (dVar 1) dNoPart (dPart (dUn negD (dC (.int 1))))) (dOp addD (dVar 1) (dVar 2)))))
  (dRet (dVar 1))))
def den_law_red : FN := denOf [] 1 3 g_law_red
def g_law_same (den : FN) : Ev → R Out :=
  (dSeq (dIfS (dTest (dOp isN (dVar 1) (dC .non)))
    (dRet (dOp isN (dVar 0) (dC .non)))
    dPass)
  (dSeq (dIfS (dTest (dIsi [0, 2] (dVar 1)))
    (dRet (dAndV (dOp eqD (dIsi [0] (dVar 0)) (dIsi [0] (dVar 1))) (dAndV (dIsi [0, 2] (dVar 0)) (dOp eqD (dVar 0) (dVar 1)))))
    dPass)
  (dSeq (dIfS (dTest (dIsi [1] (dVar 1)))
    (dRet (dAndV (dIsi [1] (dVar 0)) (dAndV (dNotV (dIsi [0] (dVar 0))) (dOp eqD (dVar 0) (dVar 1)))))
    dPass)
  (dSeq (dIfS (dOr (dTest (dOp neD (dIsi [4] (dVar 1)) (dIsi [4] (dVar 0)))) (dTest (dOp neD (dIsi [3] (dVar 1)) (dIsi [3] (dVar 0)))))
    (dRet (dC (.bl false)))
    dPass)
  (dRet (dAndV (dOp eqD (dCB lenD (dCons (dVar 0) dNil)) (dCB lenD (dCons (dVar 1) dNil))) (dCB allD (dCons (dLc (dRng1 (dCons (dCB lenD (dCons (dVar 1) dNil)) dNil)) (bName 2) dYes (dCall (den) [false, false] (dCons (dOp ixD (dVar 0) (dVar 2)) (dCons (dOp ixD (dVar 1) (dVar 2)) dNil))) [2]) dNil))))))))
def den_law_same : Nat → FN
  | 0 => denOf [] 2 3 dBad
  | n + 1 => denOf [] 2 3 (g_law_same (den_law_same n))
def g_law_key : Ev → R Out :=
  (dSeq (dSet 1 (dCall den_law_signs [false] (dCons (dC (.int 26)) dNil)))
  (dRet (dTupE (dCons (dCB lenD (dCons (dVar 0) dNil)) (dCons (dLc (dIt (dVar 0)) (bName 2) dYes (dBM "str" indexD (dVar 1) (dCons (dVar 2) dNil)) [2]) dNil)))))
def den_law_key : FN := denOf [] 1 3 g_law_key
def g_is_integer : Ev → R Out :=
  (dRet (dAndV (dIsi [1] (dVar 0)) (dNotV (dIsi [0] (dVar 0)))))
def den_is_integer : FN := denOf [] 1 1 g_is_integer
def g_is_size : Ev → R Out :=
  (dRet (dAndV (dCall den_is_integer [false] (dCons (dVar 0) dNil)) (dChain leD leD (dC (.int 1)) (dVar 0) (dCB lenD (dCons (dC (.str u_ALPHABET)) dNil)))))
def den_is_size : FN := denOf [] 1 1 g_is_size
def g_check_size : Ev → R Out :=
  (dIfS (dNot (dTest (dCall den_is_size [false] (dCons (dVar 0) dNil))))
    dBad
    dPass)
def den_check_size : FN := denOf [] 1 1 g_check_size
def g_is_word_of : Ev → R Out :=
  (dRet (dAndV (dIsi [2] (dVar 1)) (dCB allD (dCons (dLc (dIt (dVar 1)) (bName 2) dYes (dOp inD (dBM "str" lowD (dVar 2) dNil) (dSl slD (dC (.str u_ALPHABET)) dNoPart (dPart (dVar 0)))) [2]) dNil))))
def den_is_word_of : FN := denOf [] 2 3 g_is_word_of
def g_check_word : Ev → R Out :=
  (dIfS (dNot (dTest (dCall den_is_word_of [false, false] (dCons (dVar 0) (dCons (dVar 1) dNil)))))
    dBad
    dPass)
def den_check_word : FN := denOf [] 2 2 g_check_word
def g_reduced_of : Ev → R Out :=
  (dSeq (dSet 1 (dLstE dNil))
  (dSeq (dFor (dIt (dVar 0)) (bName 2)
    (dIfS (dAnd (dTest (dOp neD (dVar 1) (dLstE dNil))) (dTest (dOp eqD (dOp ixD (dVar 1) (dUn negD (dC (.int 1)))) (dBM "str" swcD (dVar 2) dNil))))
      (dDrop (dPop 1))
      (dApp 1 (dVar 2))))
  (dRet (dBM "str" joinD (dC (.str [])) (dCons (dVar 1) dNil)))))
def den_reduced_of : FN := denOf [] 1 3 g_reduced_of
def g_checked_word : Ev → R Out :=
  (dSeq (dDrop (dCall den_check_size [false] (dCons (dVar 0) dNil)))
  (dSeq (dDrop (dCall den_check_word [false, false] (dCons (dVar 0) (dCons (dVar 1) dNil))))
  (dRet (dCall den_reduced_of [false] (dCons (dVar 1) dNil)))))
def den_checked_word : FN := denOf [] 2 2 g_checked_word
def g_reduced : Ev → R Out :=
  (dRet (dCall den_checked_word [false, false] (dCons (dVar 0) (dCons (dVar 1) dNil))))
def den_reduced : FN := denOf [] 2 2 g_reduced
def g_inverse_of : Ev → R Out :=
  (dRet (dBM "str" swcD (dUn revD (dVar 0)) dNil))
def den_inverse_of : FN := denOf [] 1 1 g_inverse_of
def g_inverse : Ev → R Out :=
  (dRet (dCall den_inverse_of [false] (dCons (dCall den_checked_word [false, false] (dCons (dVar 0) (dCons (dVar 1) dNil))) dNil)))
def den_inverse : FN := denOf [] 2 2 g_inverse
def g_law_inv : Ev → R Out :=
  (dRet (dBM "str" joinD (dC (.str [])) (dCons (dLc (dIt (dUn revD (dVar 0))) (bName 1) dYes (dCall den_law_back [false] (dCons (dVar 1) dNil)) [1]) dNil)))
def den_law_inv : FN := denOf [] 1 2 g_law_inv
def g_sums_of : Ev → R Out :=
  (dRet (dCB tupD (dCons (dLc (dIt (dSl slD (dC (.str u_ALPHABET)) dNoPart (dPart (dVar 0)))) (bName 2) dYes (dOp subD (dBM "str" countD (dVar 1) (dCons (dVar 2) dNil)) (dBM "str" countD (dVar 1) (dCons (dBM "str" uppD (dVar 2) dNil) dNil))) [2]) dNil)))
def den_sums_of : FN := denOf [] 2 3 g_sums_of
def g_sums : Ev → R Out :=
  (dRet (dCall den_sums_of [false, false] (dCons (dVar 0) (dCons (dCall den_checked_word [false, false] (dCons (dVar 0) (dCons (dVar 1) dNil))) dNil))))
def den_sums : FN := denOf [] 2 2 g_sums
def g_are_words_of : Ev → R Out :=
  (dRet (dAndV (dIsi [3] (dVar 1)) (dCB allD (dCons (dLc (dIt (dVar 1)) (bName 2) dYes (dCall den_is_word_of [false, false] (dCons (dVar 0) (dCons (dVar 2) dNil))) [2]) dNil))))
def den_are_words_of : FN := denOf [] 2 3 g_are_words_of
def g_check_words : Ev → R Out :=
  (dIfS (dNot (dTest (dCall den_are_words_of [false, false] (dCons (dVar 0) (dCons (dVar 1) dNil)))))
    dBad
    dPass)
def den_check_words : FN := denOf [] 2 2 g_check_words
def g_product : Ev → R Out :=
  (dSeq (dDrop (dCall den_check_size [false] (dCons (dVar 0) dNil)))
  (dSeq (dDrop (dCall den_check_words [false, false] (dCons (dVar 0) (dCons (dVar 1) dNil))))
  (dRet (dCall den_reduced_of [false] (dCons (dBM "str" joinD (dC (.str [])) (dCons (dVar 1) dNil)) dNil)))))
def den_product : FN := denOf [] 2 2 g_product
def g_word_key : Ev → R Out :=
  (dRet (dTupE (dCons (dCB lenD (dCons (dVar 0) dNil)) (dCons (dCB tupD (dCons (dLc (dIt (dVar 0)) (bName 1) dYes (dOp addD (dOp mulD (dC (.int 2)) (dBM "str" indexD (dC (.str u_ALPHABET)) (dCons (dBM "str" lowD (dVar 1) dNil) dNil))) (dCB intD (dCons (dBM "str" isupD (dVar 1) dNil) dNil))) [1]) dNil)) dNil))))
def den_word_key : FN := denOf [] 1 2 g_word_key
def g_is_before : Ev → R Out :=
  (dSeq (dSet 3 (dCall den_checked_word [false, false] (dCons (dVar 0) (dCons (dVar 1) dNil))))
  (dSeq (dDrop (dCall den_check_word [false, false] (dCons (dVar 0) (dCons (dVar 2) dNil))))
  (dRet (dOp ltD (dCall den_word_key [false] (dCons (dVar 3) dNil)) (dCall den_word_key [false] (dCons (dCall den_reduced_of [false] (dCons (dVar 2) dNil)) dNil))))))
def den_is_before : FN := denOf [] 3 4 g_is_before
def g_is_word : Ev → R Out :=
  (dSeq (dDrop (dCall den_check_size [false] (dCons (dVar 0) dNil)))
  (dRet (dCall den_is_word_of [false, false] (dCons (dVar 0) (dCons (dVar 1) dNil)))))
def den_is_word : FN := denOf [] 2 2 g_is_word
def g_check_integer : Ev → R Out :=
  (dIfS (dNot (dTest (dCall den_is_integer [false] (dCons (dVar 0) dNil))))
    dBad
    dPass)
def den_check_integer : FN := denOf [] 1 1 g_check_integer
def g_power_of : Ev → R Out :=
  (dRet (dCall den_reduced_of [false] (dCons (dIf (dTest (dOp geD (dVar 1) (dC (.int 0)))) (dOp mulD (dVar 0) (dVar 1)) (dOp mulD (dCall den_inverse_of [false] (dCons (dVar 0) dNil)) (dUn negD (dVar 1)))) dNil)))
def den_power_of : FN := denOf [] 2 2 g_power_of
def g_power : Ev → R Out :=
  (dSeq (dSet 3 (dCall den_checked_word [false, false] (dCons (dVar 0) (dCons (dVar 1) dNil))))
  (dSeq (dDrop (dCall den_check_integer [false] (dCons (dVar 2) dNil)))
  (dRet (dCall den_power_of [false, false] (dCons (dVar 3) (dCons (dVar 2) dNil))))))
def den_power : FN := denOf [] 3 4 g_power
end Wf
namespace Wf
open DN L2
local macro_rules | `(tactic| tb_rel) => `(tactic| simp only [e_seq, e_seqN, e_seqR, e_seqB, e_seqC, e_pass, e_brk, e_cnt, e_drop, e_dropK, e_ret, e_retK, e_retN, e_set, setK, e_asg, asgK, e_par, parK, R.bind_ok, R.bind_exc, R.bind_bad, e_var, e_varK0, e_varK1, e_varKi, e_c, e_un, unK, e_op, e_opK, opK2, e_nil, e_cons, e_consK, e_consK2, e_cb, cbK, e_bm, e_bmKs, bmK2, e_noPart, e_part, partK, e_sl, e_slK, e_slK1, slK2, e_test, testK, e_and, e_andT, e_andF, e_or, e_orT, e_orF, e_not, e_notK, e_if, e_ifT, e_ifF, e_ifS, e_andV, e_andVT, e_andVF, e_orV, e_orVT, e_orVF, e_notV, e_notVK, e_chain, e_chK, e_chM, e_chMb, e_opv, e_ch3T, e_ch3F, e_isi, isiK, e_tup, tupK, e_lst, lstK, e_call, e_callK, e_callL, e_callK2, e_appA, e_appAK, e_appAK2, e_callKw, e_kwK, e_kwL, e_kwK2, e_aug, e_augL, augK, e_app, e_appL, appK, e_setI, e_setIK, e_setIL, setIK2, e_augI, e_augIL, e_augIK, e_augIR, e_augI0, e_augI1, augI2, e_for, e_forK, e_it, itK, e_rng1, rng1K, e_rng2, rng2K, e_lc, e_yes, passN, pass1, fz1, fzs, backN, back1, rds, e_rd0, e_rd1, e_rda, e_rdS0, e_rdS1, e_rdS2, e_rdS3, Sl.o1, Sl.re, fins, fin1, argOk, bName, bNil, bCons, bTup, out_some, out_none, e_finN, e_finR, List.getElem?_cons_zero, List.getElem?_cons_succ, List.getElem?_nil, List.set_cons_zero, List.set_cons_succ, List.length_cons, List.length_nil, List.cons_append, List.nil_append, List.append_nil, List.replicate_succ, List.replicate_zero, Option.map_some, Option.map_none, Option.bind_some, pick_cons, pick_nil', List.map_cons, List.map_nil, List.any_cons, List.any_nil, isC, Bool.not_true, Bool.not_false, Bool.or_false, Bool.or_true, Bool.true_or, Bool.false_or, Nat.reduceAdd, Nat.reduceSub, Nat.reduceLT, Nat.reduceLeDiff, Nat.reduceEqDiff, reduceIte, and_self, if_true, ite_true, true_and, and_true, Nat.zero_add, List.length_map, Nat.lt_add_left_iff_pos, Nat.zero_lt_succ, v_add, v_sub, v_neg, v_iadd, v_lt, v_gt, v_le, v_ge, v_eqi, v_eqs, v_eqb, v_nei, v_nes, v_neb, v_isn, v_notn, v_int, v_abs, v_lenl, v_lenf, v_lent, v_tupl, v_tupt, v_listl, v_listf, v_listt, v_revl, v_sll, v_slt, v_in1, v_cnt, isnB])
/-! ### places in lists -/
theorem ixN_nat {n j : Nat} (h : j < n) : ixN n (j : Int) = some j := by
  unfold ixN
  rw [if_pos (by omega), if_pos (by omega)]
  simp
theorem atI_at {α : Type} {xs : List α} {j : Nat} {x : α} (h : xs[j]? = some x) : atI xs (j : Int) = some x := atI_nat h
theorem v_ixl {xs : List D} {j : Nat} {x : D} (h : xs[j]? = some x) : ixD (.lst xs) (.int (j : Int)) = some (0, x) := by
  show (atI xs (j : Int)).map _ = _
  rw [atI_at h]; rfl
theorem v_ixt {xs : List D} {j : Nat} {x : D} (h : xs[j]? = some x) : ixD (.tup xs) (.int (j : Int)) = some (0, x) := by
  show (atI xs (j : Int)).map _ = _
  rw [atI_at h]; rfl
theorem v_ixs {s : List Nat} {j : Nat} {c : Nat} (hl : s.length ≤ 16777216) (h : s[j]? = some c) : ixD (.str s) (.int (j : Int)) = some (0, .str [c]) := by
  show (if s.length ≤ LL then (atI s (j : Int)).map _ else _) = _
  rw [if_pos hl, atI_at h]; rfl
theorem v_ix0 {x : D} {xs : List D} : ixD (.lst (x :: xs)) (.int 0) = some (0, x) := v_ixl (j := 0) rfl
theorem v_ix1 {x y : D} {xs : List D} : ixD (.lst (x :: y :: xs)) (.int 1) = some (0, y) := v_ixl (j := 1) rfl
theorem v_ix2 {x y z : D} {xs : List D} : ixD (.lst (x :: y :: z :: xs)) (.int 2) = some (0, z) := v_ixl (j := 2) rfl
theorem v_at2 {x y z : D} {xs : List D} : atI (x :: y :: z :: xs) 2 = some z := atI_at (j := 2) rfl
theorem v_xN0 {n : Nat} : ixN (n + 1) 0 = some 0 := ixN_nat (j := 0) (by omega)
theorem v_xN1 {n : Nat} : ixN (n + 1 + 1) 1 = some 1 := ixN_nat (j := 1) (by omega)
theorem v_xN2 {n : Nat} : ixN (n + 1 + 1 + 1) 2 = some 2 := ixN_nat (j := 2) (by omega)
theorem v_mod {a b : Int} (h : 0 < b) : modD (.int a) (.int b) = some (0, .int (a % b)) := by
  show (if b ≠ 0 then some ((0 : Nat), D.int (a.fmod b)) else none) = _
  rw [if_pos (by omega), Int.fmod_eq_emod_of_nonneg a (by omega)]
theorem v_fdiv {a b : Int} (h : 0 < b ∧ b < 1073741824) : fdivD (.int a) (.int b) = some (0, .int (a / b)) := by
  show (if b ≠ 0 ∧ b.natAbs < 1073741824 then some ((0 : Nat), D.int (a.fdiv b)) else none) = _
  rw [if_pos (by omega), Int.fdiv_eq_ediv_of_nonneg a (by omega)]
theorem v_mul {a b : Int} (h : (-18446744073709551616 < a ∧ a < 18446744073709551616) ∨ (-18446744073709551616 < b ∧ b < 18446744073709551616)) : mulD (.int a) (.int b) = some (0, .int (a * b)) := if_pos h
theorem v_pow18 : powD (.int 10) (.int 18) = some (0, .int 1000000000000000000) := rfl

/-! ### what is drawn from -/
structure Pot where
  a : Int
  b : Int
  c : Nat
  r : List Int
  ha : 0 ≤ a
  hb : 0 ≤ b ∧ b < 2147483648
  hc : c ≤ r.length
def Pot.l (p : Pot) : List D := .int p.a :: .int p.b :: .int ((p.c + 3 : Nat) : Int) :: p.r.map .int
abbrev Pot.d (p : Pot) : D := .lst p.l
def tk1 : Ev → R Out := (dIfS (dAnd (dTest (dOp eqD (dOp ixD (dVar 0) (dC (.int 0))) (dC (.int 0)))) (dTest (dOp ltD (dOp ixD (dVar 0) (dC (.int 2))) (dCB lenD (dCons (dVar 0) dNil)))))
    (dSeq (dSet 2 (dOp ixD (dVar 0) (dOp ixD (dVar 0) (dC (.int 2)))))
    (dSeq (dAugI 0 (dC (.int 2)) iaddD (dC (.int 1)))
    (dIfS (dTest (dOp geD (dVar 2) (dOp powD (dC (.int 10)) (dC (.int 18)))))
      (dSetI 0 (dC (.int 0)) (dOp subD (dVar 2) (dOp powD (dC (.int 10)) (dC (.int 18)))))
      (dSeq (dSet 3 (dOp modD (dCB intD (dCons (dVar 2) dNil)) (dC (.int 2147483647))))
      (dSeq (dSet 3 (dOp modD (dCB intD (dCons (dOp addD (dOp addD (dOp mulD (dVar 3) (dVar 3)) (dOp mulD (dC (.int 62089911)) (dVar 3))) (dOp mulD (dC (.int 1301)) (dOp ixD (dVar 0) (dC (.int 2))))) dNil)) (dC (.int 2147483629))))
      (dSetI 0 (dC (.int 1)) (dOp modD (dCB intD (dCons (dOp addD (dOp ixD (dVar 0) (dC (.int 1))) (dVar 3)) dNil)) (dC (.int 2147483629)))))))))
    dPass)
theorem tk1_ok (p : Pot) (m : Sl) (s2 s3 s4 : Sl) : ∃ (p' : Pot) (t2 t3 : Sl), tk1 [.io 1 p.d, m, s2, s3, s4] = .ok .nx [.io 1 p'.d, m, t2, t3, s4] := by
  obtain ⟨a, b, c, r, ha, hb, hc⟩ := p
  simp only [tk1, Pot.d, Pot.l]
  tb_rel
  simp only [v_ix0, v_eqi]
  tb_rel
  by_cases h0 : a = 0
  · subst h0
    simp only [beq_self_eq_true]
    tb_rel
    simp only [v_ix2]
    tb_rel
    by_cases h1 : c < r.length
    · have e1 : decide (((c + 3 : Nat) : Int) < ((List.map D.int r).length + 1 + 1 + 1 : Nat)) = true := by
        rw [List.length_map]; exact decide_eq_true (by omega)
      obtain ⟨x, hx⟩ : ∃ x, r[c]? = some x := ⟨r[c], List.getElem?_eq_getElem h1⟩
      have e2 : ixD (.lst (.int 0 :: .int b :: .int ((c + 3 : Nat) : Int) :: List.map D.int r)) (.int ((c + 3 : Nat) : Int)) = some (0, .int x) := v_ixl (by
        show ((List.map D.int r))[c]? = _
        rw [List.getElem?_map, hx]; rfl)
      simp only [List.length_map] at e1 ⊢
      repeat first | tb_rel | simp only [e1, e2, v_ix2, v_at2, v_xN2, v_pow18, List.length_map]
      have hc' : (((c + 3 : Nat) : Int) + 1) = ((c + 1 + 3 : Nat) : Int) := by omega
      rw [hc']
      by_cases h2 : (1000000000000000000 : Int) ≤ x
      · have e3 : decide ((1000000000000000000 : Int) ≤ x) = true := decide_eq_true h2
        repeat first | tb_rel | simp only [e3, v_pow18, v_xN0, List.length_map]
        exact ⟨⟨x - 1000000000000000000, b, c + 1, r, by omega, hb, by omega⟩, _, _, rfl⟩
      · have e3 : decide ((1000000000000000000 : Int) ≤ x) = false := decide_eq_false h2
        repeat first | tb_rel | simp only [e3, v_mod (show (0 : Int) < 2147483647 by decide)]
        have m0 := Int.emod_nonneg x (show (2147483647 : Int) ≠ 0 by decide)
        have m1 := Int.emod_lt_of_pos x (show (0 : Int) < 2147483647 by decide)
        generalize x % 2147483647 = y at m0 m1 ⊢
        have k1 : mulD (.int y) (.int y) = some (0, .int (y * y)) := v_mul (.inl ⟨by omega, by omega⟩)
        have k2 : mulD (.int 62089911) (.int y) = some (0, .int (62089911 * y)) := v_mul (.inl ⟨by decide, by decide⟩)
        have k3 : mulD (.int 1301) (.int ((c + 1 + 3 : Nat) : Int)) = some (0, .int (1301 * ((c + 1 + 3 : Nat) : Int))) := v_mul (.inl ⟨by decide, by decide⟩)
        repeat first | tb_rel | simp only [k1, k2, k3, v_ix2, v_ix1, v_xN1, v_mod (show (0 : Int) < 2147483629 by decide), List.length_map]
        generalize (y * y + 62089911 * y + 1301 * ((c + 1 + 3 : Nat) : Int)) % 2147483629 = z
        have z0 := Int.emod_nonneg (b + z) (show (2147483629 : Int) ≠ 0 by decide)
        have z1 := Int.emod_lt_of_pos (b + z) (show (0 : Int) < 2147483629 by decide)
        exact ⟨⟨0, (b + z) % 2147483629, c + 1, r, by omega, ⟨z0, by omega⟩, by omega⟩, _, _, rfl⟩
    · have e1 : decide (((c + 3 : Nat) : Int) < ((r.length + 1 + 1 + 1 : Nat) : Int)) = false := decide_eq_false (by omega)
      simp only [List.length_map, e1]
      tb_rel
      exact ⟨⟨0, b, c, r, ha, hb, hc⟩, _, _, rfl⟩
  · have e0 : (a == 0) = false := by simpa using h0
    simp only [e0]
    tb_rel
    exact ⟨⟨a, b, c, r, ha, hb, hc⟩, _, _, rfl⟩
theorem take_ok (p : Pot) {m : Int} (hm : 0 < m ∧ m < 1073741824) : ∃ (r : Int) (p' : Pot), den_law_take [.io 1 p.d, .vl 0 (.int m)] = .ok (0, .int r) [.io 1 p'.d, .vl 0 (.int m)] ∧ 0 ≤ r ∧ r < m := by
  obtain ⟨p1, t2, t3, e1⟩ := tk1_ok p (.vl 0 (.int m)) .un .un .un
  rw [den_law_take, e_den (by rfl) (by rfl)]
  have e1' : tk1 ([.io 1 p.d, .vl 0 (.int m)] ++ List.replicate (5 - 2) Sl.un) = .ok .nx [.io 1 p1.d, .vl 0 (.int m), t2, t3, .un] := e1
  have hg : g_law_take = dSeq tk1 (dSeq (dIfS (dTest (dOp gtD (dOp ixD (dVar 0) (dC (.int 0))) (dC (.int 0))))
    (dSeq (dSet 4 (dOp modD (dCB intD (dCons (dOp ixD (dVar 0) (dC (.int 0))) dNil)) (dVar 1)))
    (dSeq (dSetI 0 (dC (.int 0)) (dOp fdivD (dOp ixD (dVar 0) (dC (.int 0))) (dVar 1)))
    (dRet (dVar 4))))
    dPass)
  (dSeq (dSetI 0 (dC (.int 1)) (dOp modD (dCB intD (dCons (dOp addD (dOp addD (dOp mulD (dOp ixD (dVar 0) (dC (.int 1))) (dC (.int 41358))) (dOp mulD (dC (.int 31657)) (dOp ixD (dVar 0) (dC (.int 2))))) (dC (.int 23))) dNil)) (dC (.int 2147483647))))
  (dSeq (dSetI 0 (dC (.int 1)) (dOp modD (dCB intD (dCons (dOp addD (dOp mulD (dOp ixD (dVar 0) (dC (.int 1))) (dOp ixD (dVar 0) (dC (.int 1)))) (dC (.int 11))) dNil)) (dC (.int 2147483629))))
  (dRet (dOp modD (dCB intD (dCons (dOp fdivD (dOp ixD (dVar 0) (dC (.int 1))) (dC (.int 8))) dNil)) (dVar 1)))))) := rfl
  rw [hg, e_seq, e1']
  obtain ⟨a, b, c, r, ha, hb, hc⟩ := p1
  simp only [Pot.d, Pot.l]
  have km := v_mod (a := a) hm.1
  have kf := v_fdiv (a := a) hm
  have k8 := fun x : Int => v_fdiv (a := x) (show (0 : Int) < 8 ∧ (8 : Int) < 1073741824 by decide)
  by_cases h0 : 0 < a
  · have e0 : decide (0 < a) = true := decide_eq_true h0
    repeat first | tb_rel | simp only [v_ix0, v_gt, e0, km, kf, v_xN0]
    have := Int.ediv_nonneg ha (Int.le_of_lt hm.1)
    exact ⟨a % m, ⟨a / m, b, c, r, this, hb, hc⟩, rfl, Int.emod_nonneg _ (by omega), Int.emod_lt_of_pos _ hm.1⟩
  · have e0 : decide (0 < a) = false := decide_eq_false h0
    have k1 : mulD (.int b) (.int 41358) = some (0, .int (b * 41358)) := v_mul (.inl ⟨by omega, by omega⟩)
    have k2 : mulD (.int 31657) (.int ((c + 3 : Nat) : Int)) = some (0, .int (31657 * ((c + 3 : Nat) : Int))) := v_mul (.inl ⟨by decide, by decide⟩)
    repeat first | tb_rel | simp only [v_ix0, v_ix1, v_ix2, v_gt, e0, v_xN1, k1, k2, v_mod (show (0 : Int) < 2147483647 by decide)]
    have z0 := Int.emod_nonneg (b * 41358 + 31657 * ((c + 3 : Nat) : Int) + 23) (show (2147483647 : Int) ≠ 0 by decide)
    have z1 := Int.emod_lt_of_pos (b * 41358 + 31657 * ((c + 3 : Nat) : Int) + 23) (show (0 : Int) < 2147483647 by decide)
    generalize (b * 41358 + 31657 * ((c + 3 : Nat) : Int) + 23) % 2147483647 = y at z0 z1 ⊢
    have k3 : mulD (.int y) (.int y) = some (0, .int (y * y)) := v_mul (.inl ⟨by omega, by omega⟩)
    repeat first | tb_rel | simp only [v_ix1, v_xN1, k3, k8, v_mod hm.1, v_mod (show (0 : Int) < 2147483629 by decide)]
    have w0 := Int.emod_nonneg (y * y + 11) (show (2147483629 : Int) ≠ 0 by decide)
    have w1 := Int.emod_lt_of_pos (y * y + 11) (show (0 : Int) < 2147483629 by decide)
    exact ⟨(y * y + 11) % 2147483629 / 8 % m, ⟨a, (y * y + 11) % 2147483629, c, r, ha, ⟨w0, by omega⟩, hc⟩, rfl, Int.emod_nonneg _ (by omega), Int.emod_lt_of_pos _ hm.1⟩
end Wf

set_option Elab.async false
set_option linter.all false
set_option maxRecDepth 100000
set_option maxHeartbeats 1000000
namespace Wf
open DN L2
/-! ### words, plainly -/
theorem sw_sw (c : Nat) : sw1 (sw1 c) = c := by
  unfold sw1
  split <;> (try split) <;> (try split) <;> omega
def Ltr (n c : Nat) : Prop := (97 ≤ c ∧ c < 97 + n) ∨ (65 ≤ c ∧ c < 65 + n)
def Ltrs (n : Nat) (w : List Nat) : Prop := ∀ c ∈ w, Ltr n c
theorem Ltr.sw {n c : Nat} (hn : n ≤ 26) (h : Ltr n c) : Ltr n (sw1 c) := by
  unfold Ltr at *
  unfold sw1
  split <;> (try split) <;> omega
theorem Ltr.ne {n c : Nat} (hn : n ≤ 26) (h : Ltr n c) : sw1 c ≠ c := by
  unfold Ltr at h
  unfold sw1
  split <;> (try split) <;> omega
theorem Ltr.lt {n c : Nat} (hn : n ≤ 26) (h : Ltr n c) : c < 128 := by unfold Ltr at h; omega
theorem Ltr.mono {n m c : Nat} (hn : n ≤ m) (h : Ltr n c) : Ltr m c := by unfold Ltr at *; omega
theorem Ltrs.asc {n : Nat} {w : List Nat} (hn : n ≤ 26) (h : Ltrs n w) : asc w = true := List.all_eq_true.mpr fun c hc => decide_eq_true ((h c hc).lt hn)
theorem Ltrs.mono {n m : Nat} {w : List Nat} (hn : n ≤ m) (h : Ltrs n w) : Ltrs m w := fun c hc => (h c hc).mono hn
theorem Ltrs.app {n : Nat} {u v : List Nat} (h1 : Ltrs n u) (h2 : Ltrs n v) : Ltrs n (u ++ v) := fun c hc => by
  rcases List.mem_append.mp hc with h | h
  · exact h1 c h
  · exact h2 c h
theorem Ltrs.left {n : Nat} {u v : List Nat} (h : Ltrs n (u ++ v)) : Ltrs n u := fun c hc => h c (List.mem_append_left _ hc)
theorem Ltrs.right {n : Nat} {u v : List Nat} (h : Ltrs n (u ++ v)) : Ltrs n v := fun c hc => h c (List.mem_append_right _ hc)
theorem Ltrs.sub {n : Nat} {u v : List Nat} (h : Ltrs n v) (hs : ∀ c ∈ u, c ∈ v) : Ltrs n u := fun c hc => h c (hs c hc)
def push (st : List Nat) (c : Nat) : List Nat := if st.getLast? = some (sw1 c) then st.dropLast else st ++ [c]
def act (st w : List Nat) : List Nat := w.foldl push st
def red (w : List Nat) : List Nat := act [] w
def Red : List Nat → Prop
  | [] => True
  | [_] => True
  | a :: b :: r => a ≠ sw1 b ∧ Red (b :: r)
theorem act_app (st u v : List Nat) : act st (u ++ v) = act (act st u) v := List.foldl_append
theorem act_nil (st : List Nat) : act st [] = st := rfl
theorem act_cons (st : List Nat) (c : Nat) (v : List Nat) : act st (c :: v) = act (push st c) v := rfl
theorem last_app {α : Type} (s : List α) (c : α) : (s ++ [c]).getLast? = some c := by simp
theorem push_hit (s : List Nat) (c : Nat) : push (s ++ [sw1 c]) c = s := by
  unfold push
  rw [last_app, if_pos rfl, List.dropLast_concat]
theorem push_miss {s : List Nat} {c : Nat} (h : s.getLast? ≠ some (sw1 c)) : push s c = s ++ [c] := if_neg h
theorem snoc_cases (s : List Nat) : s = [] ∨ ∃ t l, s = t ++ [l] := by
  rcases List.eq_nil_or_concat s with h | ⟨t, l, h⟩
  · exact .inl h
  · exact .inr ⟨t, l, by simpa using h⟩
theorem Red.tail {a : Nat} {r : List Nat} (h : Red (a :: r)) : Red r := by
  cases r with
  | nil => trivial
  | cons b r => exact h.2
theorem red_app_iff : ∀ (u : List Nat) (c : Nat), Red (u ++ [c]) ↔ Red u ∧ u.getLast? ≠ some (sw1 c)
  | [], c => by simp [Red]
  | [a], c => by
    show a ≠ sw1 c ∧ True ↔ True ∧ _
    simp
  | a :: b :: r, c => by
    have ih := red_app_iff (b :: r) c
    show (a ≠ sw1 b ∧ Red ((b :: r) ++ [c])) ↔ (a ≠ sw1 b ∧ Red (b :: r)) ∧ _
    rw [ih]
    have : (a :: b :: r).getLast? = (b :: r).getLast? := by simp [List.getLast?_cons_cons]
    rw [this, and_assoc]
theorem Red.dropLast {u : List Nat} (h : Red u) : Red u.dropLast := by
  rcases snoc_cases u with rfl | ⟨t, l, rfl⟩
  · exact h
  · rw [List.dropLast_concat]; exact ((red_app_iff t l).mp h).1
theorem Red.push {st : List Nat} (h : Red st) (c : Nat) : Red (push st c) := by
  unfold Wf.push
  split
  · exact h.dropLast
  · rename_i hn; exact (red_app_iff st c).mpr ⟨h, hn⟩
theorem Red.act {st : List Nat} (h : Red st) : ∀ w : List Nat, Red (act st w)
  | [] => h
  | c :: w => Red.act (h.push c) w
theorem red_red (w : List Nat) : Red (red w) := Red.act (st := []) trivial w
/-- a reduced word is what it is reduced to -/
theorem act_fix (st : List Nat) : ∀ (w : List Nat), Red (st ++ w) → act st w = st ++ w
  | [], _ => by simp [act]
  | c :: w, h => by
    have h1 : Red (st ++ [c]) := by
      have e : st ++ c :: w = (st ++ [c]) ++ w := by simp
      rw [e] at h
      have key : ∀ (v u : List Nat), Red (u ++ v) → Red u := by
        intro v
        induction v with
        | nil => intro u hu; simpa using hu
        | cons x v ih =>
          intro u hu
          have : u ++ x :: v = (u ++ [x]) ++ v := by simp
          rw [this] at hu
          exact ((red_app_iff u x).mp (ih _ hu)).1
      exact key w _ h
    rw [act_cons, push_miss ((red_app_iff st c).mp h1).2, act_fix (st ++ [c]) w (by simpa using h)]
    simp
theorem red_fix {w : List Nat} (h : Red w) : red w = w := by
  have := act_fix [] w (by simpa using h)
  simpa [red] using this
theorem red_idem (w : List Nat) : red (red w) = red w := red_fix (red_red w)
theorem red_iff (w : List Nat) : red w = w ↔ Red w := ⟨fun h => h ▸ red_red w, red_fix⟩
/-- a pair strikes out -/
theorem push_push {st : List Nat} (h : Red st) (c : Nat) : push (push st c) (sw1 c) = st := by
  rcases snoc_cases st with rfl | ⟨t, l, rfl⟩
  · have : push [] c = [] ++ [c] := push_miss (by simp)
    rw [this]
    have := push_hit [] (sw1 c)
    rw [sw_sw] at this
    exact this
  · by_cases hl : l = sw1 c
    · subst hl
      rw [push_hit]
      exact push_miss ((red_app_iff t (sw1 c)).mp h).2
    · rw [push_miss (s := t ++ [l]) (by rw [last_app]; simpa using hl)]
      have := push_hit (t ++ [l]) (sw1 c)
      rw [sw_sw] at this
      exact this
theorem push_push' {st : List Nat} (h : Red st) (c : Nat) : push (push st (sw1 c)) c = st := by
  have := push_push h (sw1 c)
  rwa [sw_sw] at this
def inv (w : List Nat) : List Nat := w.reverse.map sw1
theorem inv_app (u v : List Nat) : inv (u ++ v) = inv v ++ inv u := by simp [inv]
theorem inv_cons (c : Nat) (v : List Nat) : inv (c :: v) = inv v ++ [sw1 c] := by simp [inv]
theorem inv_inv (w : List Nat) : inv (inv w) = w := by
  unfold inv
  rw [← List.map_reverse, List.reverse_reverse, List.map_map]
  have : sw1 ∘ sw1 = id := funext sw_sw
  rw [this, List.map_id]
theorem act_inv {st : List Nat} (h : Red st) : ∀ w : List Nat, act (act st w) (inv w) = st
  | [] => rfl
  | c :: w => by
    rw [act_cons, inv_cons, act_app, act_inv (h.push c) w]
    exact push_push h c
/-- u and v strike out to the same -/
def Eqv (u v : List Nat) : Prop := ∀ st, Red st → act st u = act st v
theorem Eqv.refl (u : List Nat) : Eqv u u := fun _ _ => rfl
theorem Eqv.symm {u v : List Nat} (h : Eqv u v) : Eqv v u := fun st hs => (h st hs).symm
theorem Eqv.trans {u v w : List Nat} (h : Eqv u v) (g : Eqv v w) : Eqv u w := fun st hs => (h st hs).trans (g st hs)
theorem Eqv.app {u u' v v' : List Nat} (h : Eqv u u') (g : Eqv v v') : Eqv (u ++ v) (u' ++ v') := fun st hs => by
  rw [act_app, act_app, h st hs]
  exact g _ (hs.act u')
theorem Eqv.red {u v : List Nat} (h : Eqv u v) : red u = red v := h [] trivial
theorem eqv_red : ∀ w : List Nat, Eqv (Wf.red w) w := by
  intro w
  have key : ∀ (n : Nat) (w : List Nat), w.length = n → Eqv (Wf.red w) w := by
    intro n
    induction n with
    | zero => intro w hw; rw [List.length_eq_zero_iff.mp hw]; exact .refl _
    | succ n ih =>
      intro w hw st hs
      rcases snoc_cases w with rfl | ⟨t, c, rfl⟩
      · cases hw
      · have ht := ih t (by simpa using hw) st hs
        have e : Wf.red (t ++ [c]) = push (Wf.red t) c := by unfold Wf.red; rw [act_app]; rfl
        rw [e, act_app]
        show act st (push (Wf.red t) c) = push (act st t) c
        rcases snoc_cases (Wf.red t) with h0 | ⟨r, l, h0⟩
        · rw [h0] at ht ⊢
          rw [← ht]
          rfl
        · rw [h0] at ht ⊢
          by_cases hl : l = sw1 c
          · subst hl
            rw [push_hit, ← ht, act_app]
            exact (push_push' (hs.act r) c).symm
          · rw [push_miss (s := r ++ [l]) (by rw [last_app]; simpa using hl), act_app, ht]
            rfl
  exact key w.length w rfl
theorem eqv_of_red {u v : List Nat} (h : red u = red v) : Eqv u v := (eqv_red u).symm.trans (h ▸ eqv_red v)
theorem red_l (u v : List Nat) : red (red u ++ v) = red (u ++ v) := ((eqv_red u).app (.refl v)).red
theorem red_r (u v : List Nat) : red (u ++ red v) = red (u ++ v) := ((Eqv.refl u).app (eqv_red v)).red
theorem Eqv.inv {u v : List Nat} (h : Eqv u v) : Eqv (Wf.inv u) (Wf.inv v) := fun st hs => by
  have h1 : act (act st (Wf.inv u)) u = st := by
    have := act_inv hs (Wf.inv u)
    rwa [inv_inv] at this
  have h2 : act (act st (Wf.inv u)) v = st := by rw [← h _ (hs.act _)]; exact h1
  have h3 := act_inv (hs.act (Wf.inv u)) v
  rw [h2] at h3
  exact h3.symm
theorem red_inv_r (w : List Nat) : red (w ++ inv w) = [] := by
  show act [] (w ++ inv w) = []
  rw [act_app]
  exact act_inv (st := []) trivial w
theorem red_inv_l (w : List Nat) : red (inv w ++ w) = [] := by
  have := red_inv_r (inv w)
  rwa [inv_inv] at this
theorem eqv_rep {u v : List Nat} (h : Eqv u v) : ∀ n : Nat, Eqv (List.replicate n u).flatten (List.replicate n v).flatten
  | 0 => .refl _
  | n + 1 => by
    rw [List.replicate_succ, List.replicate_succ, List.flatten_cons, List.flatten_cons]
    exact h.app (eqv_rep h n)
/-- a pair struck out anywhere -/
theorem red_pair (u v : List Nat) (c : Nat) : red (u ++ c :: sw1 c :: v) = red (u ++ v) := by
  have : Eqv (c :: sw1 c :: v) v := fun st hs => by
    rw [act_cons, act_cons, push_push hs]
  exact ((Eqv.refl u).app this).red
theorem push_len (st : List Nat) (c : Nat) : (push st c).length ≤ st.length + 1 := by
  unfold push
  split
  · rw [List.length_dropLast]; omega
  · simp
theorem act_len : ∀ (w st : List Nat), (act st w).length ≤ st.length + w.length
  | [], st => by simp [act]
  | c :: w, st => by
    have h1 := act_len w (push st c)
    have h2 := push_len st c
    rw [act_cons, List.length_cons]
    omega
theorem red_len (w : List Nat) : (red w).length ≤ w.length := by
  have := act_len w []
  simpa [red] using this
theorem push_mem {st : List Nat} {c x : Nat} (h : x ∈ push st c) : x ∈ st ∨ x = c := by
  unfold push at h
  split at h
  · exact .inl ((List.dropLast_sublist st).subset h)
  · rcases List.mem_append.mp h with h | h
    · exact .inl h
    · exact .inr (by simpa using h)
theorem act_mem {x : Nat} : ∀ {w st : List Nat}, x ∈ act st w → x ∈ st ∨ x ∈ w
  | [], st, h => .inl h
  | c :: w, st, h => by
    rcases act_mem (w := w) (st := push st c) h with h | h
    · rcases push_mem h with h | h
      · exact .inl h
      · exact .inr (by rw [h]; exact List.mem_cons_self ..)
    · exact .inr (List.mem_cons_of_mem _ h)
theorem red_mem {w : List Nat} {x : Nat} (h : x ∈ red w) : x ∈ w := by
  rcases act_mem (w := w) (st := []) h with h | h
  · cases h
  · exact h
theorem Ltrs.red {n : Nat} {w : List Nat} (h : Ltrs n w) : Ltrs n (Wf.red w) := fun c hc => h c (red_mem hc)
theorem Ltrs.inv {n : Nat} {w : List Nat} (hn : n ≤ 26) (h : Ltrs n w) : Ltrs n (Wf.inv w) := fun c hc => by
  unfold Wf.inv at hc
  obtain ⟨x, hx, rfl⟩ := List.mem_map.mp hc
  exact (h x (by simpa using hx)).sw hn
theorem inv_len (w : List Nat) : (inv w).length = w.length := by simp [inv]
/-- how often a letter, less its inverse -/
def ex (a : Nat) (w : List Nat) : Int := (w.count a : Int) - (w.count (sw1 a) : Int)
theorem ex_app (a : Nat) (u v : List Nat) : ex a (u ++ v) = ex a u + ex a v := by
  unfold ex
  rw [List.count_append, List.count_append]
  omega
theorem ex_push (a : Nat) (st : List Nat) (c : Nat) : ex a (push st c) = ex a st + ex a [c] := by
  unfold push
  split
  · rename_i h
    rcases snoc_cases st with rfl | ⟨t, l, rfl⟩
    · cases h
    · rw [last_app] at h
      have hl : l = sw1 c := by simpa using h
      subst hl
      rw [List.dropLast_concat, ex_app]
      have : ex a [sw1 c] + ex a [c] = 0 := by
        unfold ex
        simp only [List.count_cons, List.count_nil]
        have e1 : (sw1 c == a) = (c == sw1 a) := by
          rw [Bool.eq_iff_iff]; simp
          constructor
          · intro h; rw [← h, sw_sw]
          · intro h; rw [h, sw_sw]
        have e2 : (sw1 c == sw1 a) = (c == a) := by
          rw [Bool.eq_iff_iff]; simp
          constructor
          · intro h; have := congrArg sw1 h; rwa [sw_sw, sw_sw] at this
          · intro h; rw [h]
        rw [e1, e2]
        omega
      omega
  · rw [ex_app]
theorem ex_act (a : Nat) : ∀ (w st : List Nat), ex a (act st w) = ex a st + ex a w
  | [], st => by
    show ex a st = ex a st + ex a []
    simp [ex]
  | c :: w, st => by
    rw [act_cons, ex_act a w, ex_push]
    have : ex a (c :: w) = ex a [c] + ex a w := ex_app a [c] w
    omega
theorem ex_red (a : Nat) (w : List Nat) : ex a (red w) = ex a w := by
  have := ex_act a w []
  simpa [ex, red] using this
end Wf

set_option Elab.async false
set_option linter.all false
set_option maxRecDepth 100000
set_option maxHeartbeats 1000000
namespace Wf
open DN L2
local macro_rules | `(tactic| tb_rel) => `(tactic| simp only [e_seq, e_seqN, e_seqR, e_seqB, e_seqC, e_pass, e_brk, e_cnt, e_drop, e_dropK, e_ret, e_retK, e_retN, e_set, setK, e_asg, asgK, e_par, parK, R.bind_ok, R.bind_exc, R.bind_bad, e_var, e_varK0, e_varK1, e_varKi, e_c, e_un, unK, e_op, e_opK, opK2, e_nil, e_cons, e_consK, e_consK2, e_cb, cbK, e_bm, e_bmKs, bmK2, e_noPart, e_part, partK, e_sl, e_slK, e_slK1, slK2, e_test, testK, e_and, e_andT, e_andF, e_or, e_orT, e_orF, e_not, e_notK, e_if, e_ifT, e_ifF, e_ifS, e_andV, e_andVT, e_andVF, e_orV, e_orVT, e_orVF, e_notV, e_notVK, e_chain, e_chK, e_chM, e_chMb, e_opv, e_ch3T, e_ch3F, e_isi, isiK, e_tup, tupK, e_lst, lstK, e_call, e_callK, e_callL, e_callK2, e_appA, e_appAK, e_appAK2, e_callKw, e_kwK, e_kwL, e_kwK2, e_aug, e_augL, augK, e_app, e_appL, appK, e_setI, e_setIK, e_setIL, setIK2, e_augI, e_augIL, e_augIK, e_augIR, e_augI0, e_augI1, augI2, e_for, e_forK, e_it, itK, e_rng1, rng1K, e_rng2, rng2K, e_lc, e_yes, passN, pass1, fz1, fzs, backN, back1, rds, e_rd0, e_rd1, e_rda, e_rdS0, e_rdS1, e_rdS2, e_rdS3, Sl.o1, Sl.re, fins, fin1, argOk, bName, bNil, bCons, bTup, out_some, out_none, e_finN, e_finR, List.getElem?_cons_zero, List.getElem?_cons_succ, List.getElem?_nil, List.set_cons_zero, List.set_cons_succ, List.length_cons, List.length_nil, List.cons_append, List.nil_append, List.append_nil, List.replicate_succ, List.replicate_zero, Option.map_some, Option.map_none, Option.bind_some, pick_cons, pick_nil', List.map_cons, List.map_nil, List.any_cons, List.any_nil, isC, Bool.not_true, Bool.not_false, Bool.or_false, Bool.or_true, Bool.true_or, Bool.false_or, Nat.reduceAdd, Nat.reduceSub, Nat.reduceLT, Nat.reduceLeDiff, Nat.reduceEqDiff, reduceIte, and_self, if_true, ite_true, true_and, and_true, Nat.zero_add, List.length_map, Nat.lt_add_left_iff_pos, Nat.zero_lt_succ, v_add, v_sub, v_neg, v_iadd, v_lt, v_gt, v_le, v_ge, v_eqi, v_eqs, v_eqb, v_nei, v_nes, v_neb, v_isn, v_notn, v_int, v_abs, v_lenl, v_lenf, v_lent, v_tupl, v_tupt, v_listl, v_listf, v_listt, v_revl, v_sll, v_slt, v_in1, v_cnt, isnB])
open PyProof.Rows (lo1 up1)
abbrev sS (s : List Nat) : Sl := .vl 0 (.str s)
abbrev sI (i : Int) : Sl := .vl 0 (.int i)
/-! ### signs -/
theorem asc1 {c : Nat} (h : c < 128) : asc [c] = true := by simp [asc, h]
theorem low1 {c : Nat} (h : c < 128) : lowD (.str [c]) [] = some (0, .str [lo1 c]) := v_low (asc1 h) (by simp)
theorem upp1 {c : Nat} (h : c < 128) : uppD (.str [c]) [] = some (0, .str [up1 c]) := v_upp (asc1 h) (by simp)
theorem swc1 {c : Nat} (h : c < 128) : swcD (.str [c]) [] = some (0, .str [sw1 c]) := v_swc (asc1 h) (by simp)
theorem back_ok {c : Nat} (h : c < 128) : den_law_back [sS [c]] = .ok (0, .str [sw1 c]) [sS [c]] := by
  rw [den_law_back, e_den (by rfl) (by rfl)]
  simp only [g_law_back]
  repeat first | tb_rel | simp only [low1 h, upp1 h]
  by_cases hc : c = lo1 c
  · have e : ([c] == [lo1 c]) = true := by simpa using hc
    have e2 : up1 c = sw1 c := by
      unfold lo1 at hc
      unfold up1 sw1
      split at hc <;> (try split) <;> (try split) <;> omega
    repeat first | tb_rel | simp only [e, upp1 h, e2]
  · have e : ([c] == [lo1 c]) = false := by simpa using hc
    have e2 : lo1 c = sw1 c := by
      unfold lo1 at hc ⊢
      unfold sw1
      split at hc <;> (try split) <;> (try split) <;> omega
    repeat first | tb_rel | simp only [e, low1 h]
    rw [e2]
theorem v_ix_last {t : List Nat} {l : Nat} (h : (t ++ [l]).length ≤ 16777216) : ixD (.str (t ++ [l])) (.int (-1)) = some (0, .str [l]) := by
  show (if (t ++ [l]).length ≤ LL then (atI (t ++ [l]) (-1)).map _ else none) = _
  rw [if_pos h]
  have : atI (t ++ [l]) (-1) = some l := by
    unfold atI ixN
    rw [if_neg (by decide), if_pos (by rw [List.length_append]; simp; omega)]
    show (t ++ [l])[((-1 : Int) + ((t ++ [l]).length : Nat)).toNat]? = _
    have : ((-1 : Int) + ((t ++ [l]).length : Nat)).toNat = t.length := by rw [List.length_append]; simp only [List.length_cons, List.length_nil]; omega
    rw [this]
    simp
  rw [this]
  rfl
theorem cut_dl {α : Type} (t : List α) (l : α) : cut (t ++ [l]) none (some (-1)) = t := by
  unfold cut HT.sIx
  simp only [List.length_append, List.length_cons, List.length_nil, List.drop_zero, Nat.sub_zero]
  rw [if_pos (by decide)]
  have : ((-1 : Int) + ((t.length + (0 + 1) : Nat) : Int)).toNat = t.length := by omega
  rw [this]
  simp
theorem cut_to {α : Type} (t : List α) (n : Nat) : cut t none (some (n : Int)) = t.take n := by
  unfold cut HT.sIx
  simp only [List.drop_zero, Nat.sub_zero, Int.toNat_natCast]
  rw [if_neg (by omega)]
  rcases Nat.le_total n t.length with h | h
  · rw [Nat.min_eq_left h]
  · rw [Nat.min_eq_right h, List.take_of_length_le (Nat.le_refl _), List.take_of_length_le h]
theorem cut_from {α : Type} (t : List α) (n : Nat) : cut t (some (n : Int)) none = t.drop n := by
  unfold cut HT.sIx
  simp only [Int.toNat_natCast]
  rw [if_neg (by omega)]
  rcases Nat.le_total n t.length with h | h
  · rw [Nat.min_eq_left h]
    exact List.take_of_length_le (by rw [List.length_drop]; omega)
  · rw [Nat.min_eq_right h, List.drop_eq_nil_of_le (Nat.le_refl _), List.drop_eq_nil_of_le h]
    simp
/-! ### red -/
def redB : Ev → R Out := (dSet 1 (dIf (dAnd (dTest (dOp neD (dVar 1) (dC (.str [])))) (dTest (dOp eqD (dOp ixD (dVar 1) (dUn negD (dC (.int 1)))) (dCall den_law_back [false] (dCons (dVar 2) dNil))))) (dSl slD (dVar 1) dNoPart (dPart (dUn negD (dC (.int 1))))) (dOp addD (dVar 1) (dVar 2))))
theorem redB_ok {w : Sl} {st : List Nat} {c : Nat} (hc : c < 128) (hl : st.length < 1000000) : redB [w, sS st, sS [c]] = .ok .nx [w, sS (push st c), sS [c]] := by
  simp only [redB]
  have ha : addD (.str st) (.str [c]) = some (0, .str (st ++ [c])) := v_adds (by simp only [List.length_cons, List.length_nil]; omega)
  have hs := v_sls (s := st) (lo := none) (hi := some (-1)) (by omega)
  rcases snoc_cases st with rfl | ⟨t, l, rfl⟩
  · have e : (!(([] : List Nat) == [])) = false := rfl
    repeat first | tb_rel | simp only [e, ha]
    rfl
  · have e : (!((t ++ [l]) == [])) = true := by simp
    have hx := v_ix_last (t := t) (l := l) (by omega)
    repeat first | tb_rel | simp only [e, hx, back_ok hc]
    by_cases h : l = sw1 c
    · have e2 : ([l] == [sw1 c]) = true := by simpa using h
      repeat first | tb_rel | simp only [e2, hs, cut_dl]
      subst h
      rw [push_hit]
    · have e2 : ([l] == [sw1 c]) = false := by simpa using h
      repeat first | tb_rel | simp only [e2, ha]
      rw [push_miss (by rw [last_app]; simpa using h)]
theorem redL_ok {w : Sl} : ∀ (cs st : List Nat) (x : Sl), asc cs = true → st.length + cs.length < 1000000 → ∃ y, dLoop (bName 2) redB (cs.map fun c => .str [c]) [w, sS st, x] = .ok .nx [w, sS (act st cs), y]
  | [], st, x, _, _ => ⟨x, rfl⟩
  | c :: cs, st, x, h, hl => by
    have hc : c < 128 := by have := List.all_eq_true.mp h c (List.mem_cons_self ..); simpa using this
    have ht : asc cs = true := by unfold asc at h ⊢; rw [List.all_cons, Bool.and_eq_true] at h; exact h.2
    have hp := push_len st c
    rw [List.length_cons] at hl
    obtain ⟨y, e⟩ := redL_ok (w := w) cs (push st c) (sS [c]) ht (by omega)
    refine ⟨y, ?_⟩
    rw [List.map_cons, e_loop (ev1 := [w, sS st, sS [c]]) (by rfl), redB_ok hc (by omega), e_loopN, e]
    rfl
theorem lred_ok {w : List Nat} (h : asc w = true) (hl : w.length < 1000000) : den_law_red [sS w] = .ok (0, .str (red w)) [sS w] := by
  rw [den_law_red, e_den (by rfl) (by rfl)]
  have hg : g_law_red = dSeq (dSet 1 (dC (.str []))) (dSeq (dFor (dIt (dVar 0)) (bName 2) redB) (dRet (dVar 1))) := rfl
  rw [hg]
  obtain ⟨y, e⟩ := redL_ok (w := sS w) w [] .un h (by simpa using hl)
  repeat first | tb_rel | simp only [e]
  rfl
end Wf

set_option Elab.async false
set_option linter.all false
set_option maxRecDepth 100000
set_option maxHeartbeats 1000000
namespace Wf
open DN L2
local macro_rules | `(tactic| tb_rel) => `(tactic| simp only [e_seq, e_seqN, e_seqR, e_seqB, e_seqC, e_pass, e_brk, e_cnt, e_drop, e_dropK, e_ret, e_retK, e_retN, e_set, setK, e_asg, asgK, e_par, parK, R.bind_ok, R.bind_exc, R.bind_bad, e_var, e_varK0, e_varK1, e_varKi, e_c, e_un, unK, e_op, e_opK, opK2, e_nil, e_cons, e_consK, e_consK2, e_cb, cbK, e_bm, e_bmKs, bmK2, e_noPart, e_part, partK, e_sl, e_slK, e_slK1, slK2, e_test, testK, e_and, e_andT, e_andF, e_or, e_orT, e_orF, e_not, e_notK, e_if, e_ifT, e_ifF, e_ifS, e_andV, e_andVT, e_andVF, e_orV, e_orVT, e_orVF, e_notV, e_notVK, e_chain, e_chK, e_chM, e_chMb, e_opv, e_ch3T, e_ch3F, e_isi, isiK, e_tup, tupK, e_lst, lstK, e_call, e_callK, e_callL, e_callK2, e_appA, e_appAK, e_appAK2, e_callKw, e_kwK, e_kwL, e_kwK2, e_aug, e_augL, augK, e_app, e_appL, appK, e_setI, e_setIK, e_setIL, setIK2, e_augI, e_augIL, e_augIK, e_augIR, e_augI0, e_augI1, augI2, e_for, e_forK, e_it, itK, e_rng1, rng1K, e_rng2, rng2K, e_lc, e_yes, passN, pass1, fz1, fzs, backN, back1, rds, e_rd0, e_rd1, e_rda, e_rdS0, e_rdS1, e_rdS2, e_rdS3, Sl.o1, Sl.re, fins, fin1, argOk, bName, bNil, bCons, bTup, out_some, out_none, e_finN, e_finR, List.getElem?_cons_zero, List.getElem?_cons_succ, List.getElem?_nil, List.set_cons_zero, List.set_cons_succ, List.length_cons, List.length_nil, List.cons_append, List.nil_append, List.append_nil, List.replicate_succ, List.replicate_zero, Option.map_some, Option.map_none, Option.bind_some, pick_cons, pick_nil', List.map_cons, List.map_nil, List.any_cons, List.any_nil, isC, Bool.not_true, Bool.not_false, Bool.or_false, Bool.or_true, Bool.true_or, Bool.false_or, Nat.reduceAdd, Nat.reduceSub, Nat.reduceLT, Nat.reduceLeDiff, Nat.reduceEqDiff, reduceIte, and_self, if_true, ite_true, true_and, and_true, Nat.zero_add, List.length_map, Nat.lt_add_left_iff_pos, Nat.zero_lt_succ, v_add, v_sub, v_neg, v_iadd, v_lt, v_gt, v_le, v_ge, v_eqi, v_eqs, v_eqb, v_nei, v_nes, v_neb, v_isn, v_notn, v_int, v_abs, v_lenl, v_lenf, v_lent, v_tupl, v_tupt, v_listl, v_listf, v_listt, v_revl, v_sll, v_slt, v_in1, v_cnt, isnB, restE, wipeE, frzS])
open PyProof.Rows (lo1 up1)
section
variable {α : Type} {b : D → Ev → Option Ev} {ft : Ev → R Bool} {fa : Ev → R T} {vs : List Nat} {ev E : Ev} {q g : α → D} {p : α → Bool}
theorem lcL_gen : ∀ (l : List α) (acc : List D) (e : Ev), wipeE e vs = E → (∀ x ∈ l, ∃ e1 e2, b (q x) E = some e1 ∧ ft e1 = .ok (p x) e2 ∧ ((p x = true ∧ ∃ t e3 e4, fa e2 = .ok t e3 ∧ fz1 t e3 = some (g x, e4) ∧ wipeE e4 vs = E) ∨ (p x = false ∧ wipeE e2 vs = E))) →
    ∃ e', dLcL b ft fa vs (l.map q) acc e = .ok (acc ++ (l.filter p).map g) e' ∧ wipeE e' vs = E
  | [], acc, e, h, _ => ⟨e, by show R.ok acc e = _; simp, h⟩
  | x :: l, acc, e, h, hd => by
    obtain ⟨e1, e2, h1, h2, h3⟩ := hd x (List.mem_cons_self ..)
    have hr := fun y hy => hd y (List.mem_cons_of_mem _ hy)
    rw [List.map_cons]
    unfold dLcL
    rw [h, h1]
    simp only [h2, R.bind_ok]
    rcases h3 with ⟨hp, t, e3, e4, h4, h5, h6⟩ | ⟨hp, h6⟩
    · obtain ⟨e', g1, g2⟩ := lcL_gen l (acc ++ [g x]) e4 h6 hr
      refine ⟨e', ?_, g2⟩
      rw [hp, if_pos rfl, h4]
      simp only [R.bind_ok, h5]
      rw [g1]
      simp [hp]
    · obtain ⟨e', g1, g2⟩ := lcL_gen l acc e2 h6 hr
      refine ⟨e', ?_, g2⟩
      rw [hp, if_neg Bool.false_ne_true, g1]
      simp [hp]
theorem lc_fil (E : Ev) (l : List α) (hl : l.length ≤ 1000000) (hE : wipeE ev vs = E) (h : ∀ x ∈ l, ∃ e1 e2, b (q x) E = some e1 ∧ ft e1 = .ok (p x) e2 ∧ ((p x = true ∧ ∃ t e3 e4, fa e2 = .ok t e3 ∧ fz1 t e3 = some (g x, e4) ∧ wipeE e4 vs = E) ∨ (p x = false ∧ wipeE e2 vs = E))) :
    lcK b ft fa vs (l.map q) ev = .ok (.vl 1 (.lst ((l.filter p).map g))) (restE ev vs E) := by
  unfold lcK
  rw [if_pos (by rw [List.length_map]; exact hl)]
  obtain ⟨e', g1, g2⟩ := lcL_gen l [] ev hE h
  rw [g1]
  simp only [g2, List.nil_append]
theorem lc_each (E : Ev) (l : List α) (hl : l.length ≤ 1000000) (hE : wipeE ev vs = E) (h : ∀ x ∈ l, ∃ e1 t e3 e4, b (q x) E = some e1 ∧ fa e1 = .ok t e3 ∧ fz1 t e3 = some (g x, e4) ∧ wipeE e4 vs = E) :
    lcK b dYes fa vs (l.map q) ev = .ok (.vl 1 (.lst (l.map g))) (restE ev vs E) := by
  have := lc_fil (ft := dYes) (p := fun _ => true) (q := q) (g := g) E l hl hE fun x hx => by
    obtain ⟨e1, t, e3, e4, h1, h2, h3, h4⟩ := h x hx
    exact ⟨e1, e1, h1, rfl, .inl ⟨rfl, t, e3, e4, h2, h3, h4⟩⟩
  rw [this, List.filter_eq_self.mpr (fun _ _ => rfl)]
end
theorem bls_map {α : Type} (l : List α) (f : α → Bool) : blsL (l.map fun x => .bl (f x)) = some (l.map f) := by
  induction l with
  | nil => rfl
  | cons x l ih => show (blsL (l.map fun x => D.bl (f x))).map _ = _; rw [ih]; rfl
theorem ints_map {α : Type} (l : List α) (f : α → Int) : intsL (l.map fun x => .int (f x)) = some (l.map f) := by
  induction l with
  | nil => rfl
  | cons x l ih => show (intsL (l.map fun x => D.int (f x))).map _ = _; rw [ih]; rfl
theorem strs_map {α : Type} (l : List α) (f : α → List Nat) : strsL (l.map fun x => .str (f x)) = some (l.map f) := by
  induction l with
  | nil => rfl
  | cons x l ih => show (strsL (l.map fun x => D.str (f x))).map _ = _; rw [ih]; rfl
theorem v_all {α : Type} (l : List α) (f : α → Bool) : allD [.lst (l.map fun x => .bl (f x))] = some (0, .bl (l.all f)) := by
  show (blsL _).map _ = _
  rw [bls_map]
  simp
theorem v_any {α : Type} (l : List α) (f : α → Bool) : anyD [.lst (l.map fun x => .bl (f x))] = some (0, .bl (l.any f)) := by
  show (blsL _).map _ = _
  rw [bls_map]
  simp
theorem v_join {α : Type} (l : List α) (f : α → List Nat) (h : ((l.map f).map (·.length)).sum ≤ 16777216) : joinD (.str []) [.lst (l.map fun x => .str (f x))] = some (0, .str (l.map f).flatten) := by
  show (match strsL _ with | some ys => _ | none => _) = _
  rw [strs_map]
  show (if ((l.map f).map (·.length)).sum + (l.map f).length * ([] : List Nat).length ≤ LL then some ((0 : Nat), D.str (joinS [] (l.map f))) else none) = _
  have : joinS [] (l.map f) = (l.map f).flatten := by
    cases l with
    | nil => rfl
    | cons x l => simp [joinS, Function.comp_def]
  rw [if_pos (by simpa using h), this]
theorem v_joint {α : Type} (l : List α) (f : α → List Nat) (h : ((l.map f).map (·.length)).sum ≤ 16777216) : joinD (.str []) [.tup (l.map fun x => .str (f x))] = some (0, .str (l.map f).flatten) := v_join l f h
theorem flat1 (l : List Nat) (f : Nat → Nat) : (l.map fun c => [f c]).flatten = l.map f := by
  induction l with
  | nil => rfl
  | cons x l ih => simp [ih]
theorem sum1 (l : List Nat) (f : Nat → Nat) : ((l.map fun c => [f c]).map (·.length)).sum = l.length := by
  induction l with
  | nil => rfl
  | cons x l ih => simp only [List.map_cons, List.sum_cons, ih, List.length_cons, List.length_nil]; omega
theorem asc_mem' {s : List Nat} (h : asc s = true) {c : Nat} (hc : c ∈ s) : c < 128 := by
  have := List.all_eq_true.mp h c hc
  simpa using this
/-! ### inverses -/
theorem linv_ok {w : List Nat} (h : asc w = true) (hl : w.length ≤ 1000000) : den_law_inv [sS w] = .ok (0, .str (inv w)) [sS w] := by
  rw [den_law_inv, e_den (by rfl) (by rfl)]
  simp only [g_law_inv]
  have hr := v_revs (s := w) (by omega)
  have hlc : lcK (bName 1) dYes (dCall den_law_back [false] (dCons (dVar 1) dNil)) [1] (w.reverse.map fun c => D.str [c]) [sS w, .un] = .ok (.vl 1 (.lst (w.reverse.map fun c => .str [sw1 c]))) (restE [sS w, .un] [1] [sS w, .un]) :=
    lc_each (q := fun c => D.str [c]) (g := fun c => D.str [sw1 c]) [sS w, .un] w.reverse (by simpa using hl) rfl fun c hc => by
      have hb := back_ok (asc_mem' h (by simpa using hc))
      refine ⟨[sS w, sS [c]], .vl 0 (.str [sw1 c]), [sS w, sS [c]], [sS w, sS [c]], rfl, ?_, rfl, rfl⟩
      repeat first | tb_rel | simp only [hb]
  have hj := v_join w.reverse (fun c => [sw1 c]) (by rw [sum1]; simp; omega)
  rw [flat1] at hj
  repeat first | tb_rel | simp only [hr, hlc, hj]
  rfl
theorem inverse_of_ok {w : List Nat} (h : asc w = true) (hl : w.length ≤ 1000000) : den_inverse_of [sS w] = .ok (0, .str (inv w)) [sS w] := by
  rw [den_inverse_of, e_den (by rfl) (by rfl)]
  simp only [g_inverse_of]
  have hr := v_revs (s := w) (by omega)
  have h2 : asc w.reverse = true := by unfold asc at h ⊢; simpa using h
  have hs := v_swc h2 (by simp; omega)
  repeat first | tb_rel | simp only [hr, hs]
  rfl
/-! ### the program's striking out -/
def roB : Ev → R Out := (dIfS (dAnd (dTest (dOp neD (dVar 1) (dLstE dNil))) (dTest (dOp eqD (dOp ixD (dVar 1) (dUn negD (dC (.int 1)))) (dBM "str" swcD (dVar 2) dNil))))
      (dDrop (dPop 1))
      (dApp 1 (dVar 2)))
def sgs (l : List Nat) : List D := l.map fun c => .str [c]
theorem sgs_snoc (t : List Nat) (l : Nat) : sgs (t ++ [l]) = sgs t ++ [.str [l]] := by simp [sgs]
theorem okE_sg {c : Nat} (h : c < 128) : okE (.str [c]) = true := by
  show [c].all (fun x => decide (x < 1114112)) = true
  simp; omega
theorem okEs_sgs : ∀ {l : List Nat}, asc l = true → okEs (sgs l) = true
  | [], _ => rfl
  | c :: l, h => by
    have hc := asc_mem' h (List.mem_cons_self ..)
    have ht : asc l = true := by unfold asc at h ⊢; rw [List.all_cons, Bool.and_eq_true] at h; exact h.2
    show (okE (.str [c]) && okEs (sgs l)) = true
    rw [okE_sg hc, okEs_sgs ht]
    rfl
theorem deps_sgs : ∀ l : List Nat, deps (sgs l) = 0
  | [] => rfl
  | c :: l => by show max 0 (deps (sgs l)) = 0; rw [deps_sgs l]; rfl
theorem v_ne_sgs {l : List Nat} (h : asc l = true) : neD (.lst (sgs l)) (.lst []) = some (0, .bl (!l.isEmpty)) := by
  unfold neD
  have hc : canEq (.lst (sgs l)) (.lst []) = true := by
    show (false || (okEs (sgs l) && true && decide (deps (sgs l) + 1 ≤ 64) && decide (0 + 1 ≤ 64))) = true
    rw [okEs_sgs h, deps_sgs]
    rfl
  rw [if_pos hc]
  cases l <;> rfl
theorem v_ix_lastl {t : List D} {l : D} : ixD (.lst (t ++ [l])) (.int (-1)) = some (0, l) := by
  show (atI (t ++ [l]) (-1)).map _ = _
  have : atI (t ++ [l]) (-1) = some l := by
    unfold atI ixN
    rw [if_neg (by decide), if_pos (by rw [List.length_append]; simp; omega)]
    show (t ++ [l])[((-1 : Int) + ((t ++ [l]).length : Nat)).toNat]? = _
    have : ((-1 : Int) + ((t ++ [l]).length : Nat)).toNat = t.length := by rw [List.length_append]; simp only [List.length_cons, List.length_nil]; omega
    rw [this]
    simp
  rw [this]
  rfl
theorem e_pop {i : Nat} {ev : Ev} {s : Sl} {ds : List D} {d : D} (h1 : ev[i]? = some s) (h2 : s.o1 = some (ds ++ [d])) : dPop i ev = .ok (.vl 0 d) (ev.set i (s.re (.lst ds))) := by
  unfold dPop
  rw [h1]
  simp only [h2]
  have : (ds ++ [d])[(ds ++ [d]).length - 1]? = some d := by simp
  rw [this]
  simp
theorem roB_ok {w : Sl} {st : List Nat} {c : Nat} (ha : asc st = true) (hc : c < 128) (hl : st.length < 1000000) : roB [w, .vl 1 (.lst (sgs st)), sS [c]] = .ok .nx [w, .vl 1 (.lst (sgs (push st c))), sS [c]] := by
  simp only [roB]
  have hn := v_ne_sgs ha
  rcases snoc_cases st with rfl | ⟨t, l, rfl⟩
  · have e : (!([] : List Nat).isEmpty) = false := rfl
    repeat first | tb_rel | simp only [e, hn]
    rfl
  · have e : (!(t ++ [l]).isEmpty) = true := by cases t <;> rfl
    have hx : ixD (.lst (sgs (t ++ [l]))) (.int (-1)) = some (0, .str [l]) := by rw [sgs_snoc]; exact v_ix_lastl
    repeat first | tb_rel | simp only [e, hn, hx, swc1 hc]
    by_cases h : l = sw1 c
    · have e2 : ([l] == [sw1 c]) = true := by simpa using h
      have hp : dPop 1 [w, .vl 1 (.lst (sgs (t ++ [l]))), sS [c]] = .ok (.vl 0 (.str [l])) ([w, .vl 1 (.lst (sgs (t ++ [l]))), sS [c]].set 1 (.vl 1 (.lst (sgs t)))) :=
        e_pop (i := 1) (s := .vl 1 (.lst (sgs (t ++ [l])))) (ds := sgs t) (d := .str [l]) rfl (show some (sgs (t ++ [l])) = some (sgs t ++ [.str [l]]) by rw [sgs_snoc])
      repeat first | tb_rel | simp only [e2, hp]
      subst h
      rw [push_hit]
    · have e2 : ([l] == [sw1 c]) = false := by simpa using h
      have h5 : (sgs (t ++ [l])).length < 1000000 := by simpa [sgs] using hl
      repeat first | tb_rel | simp only [e2, if_pos h5]
      rw [push_miss (by rw [last_app]; simpa using h), sgs_snoc (t ++ [l]) c]
theorem asc_push {st : List Nat} {c : Nat} (h : asc st = true) (hc : c < 128) : asc (push st c) = true := List.all_eq_true.mpr fun x hx => by
  rcases push_mem hx with hx | rfl
  · exact decide_eq_true (asc_mem' h hx)
  · exact decide_eq_true hc
theorem asc_tl {c : Nat} {l : List Nat} (h : asc (c :: l) = true) : asc l = true := by unfold asc at h ⊢; rw [List.all_cons, Bool.and_eq_true] at h; exact h.2
theorem asc_red {w : List Nat} (h : asc w = true) : asc (red w) = true := List.all_eq_true.mpr fun x hx => decide_eq_true (asc_mem' h (red_mem hx))
theorem roL_ok {w : Sl} : ∀ (cs st : List Nat) (x : Sl), asc cs = true → asc st = true → st.length + cs.length < 1000000 → ∃ y, dLoop (bName 2) roB (cs.map fun c => .str [c]) [w, .vl 1 (.lst (sgs st)), x] = .ok .nx [w, .vl 1 (.lst (sgs (act st cs))), y]
  | [], st, x, _, _, _ => ⟨x, rfl⟩
  | c :: cs, st, x, h, hs, hl => by
    have hc : c < 128 := asc_mem' h (List.mem_cons_self ..)
    have hp := push_len st c
    rw [List.length_cons] at hl
    obtain ⟨y, e⟩ := roL_ok (w := w) cs (push st c) (sS [c]) (asc_tl h) (asc_push hs hc) (by omega)
    refine ⟨y, ?_⟩
    rw [List.map_cons, e_loop (ev1 := [w, .vl 1 (.lst (sgs st)), sS [c]]) (by rfl), roB_ok hs hc (by omega), e_loopN, e]
    rfl
theorem reduced_of_ok {w : List Nat} (h : asc w = true) (hl : w.length < 1000000) : den_reduced_of [sS w] = .ok (0, .str (red w)) [sS w] := by
  rw [den_reduced_of, e_den (by rfl) (by rfl)]
  have hg : g_reduced_of = dSeq (dSet 1 (dLstE dNil)) (dSeq (dFor (dIt (dVar 0)) (bName 2) roB) (dRet (dBM "str" joinD (dC (.str [])) (dCons (dVar 1) dNil)))) := rfl
  rw [hg]
  obtain ⟨y, e⟩ := roL_ok (w := sS w) w [] .un h rfl (by simpa using hl)
  have e : dLoop (bName 2) roB (w.map fun c => .str [c]) [sS w, .vl 1 (.lst []), .un] = .ok .nx [sS w, .vl 1 (.lst (sgs (red w))), y] := e
  have hj := v_join (red w) (fun c => [c]) (by rw [sum1 _ (fun c => c)]; have := red_len w; omega)
  rw [flat1 _ (fun c => c), List.map_id'] at hj
  have hj : joinD (.str []) [.lst (sgs (red w))] = some (0, .str (red w)) := hj
  repeat first | tb_rel | simp only [e, hj]
end Wf

set_option Elab.async false
set_option linter.all false
set_option maxRecDepth 100000
set_option maxHeartbeats 1000000
namespace Wf
open DN L2
local macro_rules | `(tactic| tb_rel) => `(tactic| simp only [e_seq, e_seqN, e_seqR, e_seqB, e_seqC, e_pass, e_brk, e_cnt, e_drop, e_dropK, e_ret, e_retK, e_retN, e_set, setK, e_asg, asgK, e_par, parK, R.bind_ok, R.bind_exc, R.bind_bad, e_var, e_varK0, e_varK1, e_varKi, e_c, e_un, unK, e_op, e_opK, opK2, e_nil, e_cons, e_consK, e_consK2, e_cb, cbK, e_bm, e_bmKs, bmK2, e_noPart, e_part, partK, e_sl, e_slK, e_slK1, slK2, e_test, testK, e_and, e_andT, e_andF, e_or, e_orT, e_orF, e_not, e_notK, e_if, e_ifT, e_ifF, e_ifS, e_andV, e_andVT, e_andVF, e_orV, e_orVT, e_orVF, e_notV, e_notVK, e_chain, e_chK, e_chM, e_chMb, e_opv, e_ch3T, e_ch3F, e_isi, isiK, e_tup, tupK, e_lst, lstK, e_call, e_callK, e_callL, e_callK2, e_appA, e_appAK, e_appAK2, e_callKw, e_kwK, e_kwL, e_kwK2, e_aug, e_augL, augK, e_app, e_appL, appK, e_setI, e_setIK, e_setIL, setIK2, e_augI, e_augIL, e_augIK, e_augIR, e_augI0, e_augI1, augI2, e_for, e_forK, e_it, itK, e_rng1, rng1K, e_rng2, rng2K, e_lc, e_yes, passN, pass1, fz1, fzs, backN, back1, rds, e_rd0, e_rd1, e_rda, e_rdS0, e_rdS1, e_rdS2, e_rdS3, Sl.o1, Sl.re, fins, fin1, argOk, bName, bNil, bCons, bTup, out_some, out_none, e_finN, e_finR, List.getElem?_cons_zero, List.getElem?_cons_succ, List.getElem?_nil, List.set_cons_zero, List.set_cons_succ, List.length_cons, List.length_nil, List.cons_append, List.nil_append, List.append_nil, List.replicate_succ, List.replicate_zero, Option.map_some, Option.map_none, Option.bind_some, pick_cons, pick_nil', List.map_cons, List.map_nil, List.any_cons, List.any_nil, isC, Bool.not_true, Bool.not_false, Bool.or_false, Bool.or_true, Bool.true_or, Bool.false_or, Nat.reduceAdd, Nat.reduceSub, Nat.reduceLT, Nat.reduceLeDiff, Nat.reduceEqDiff, reduceIte, and_self, if_true, ite_true, true_and, and_true, Nat.zero_add, List.length_map, Nat.lt_add_left_iff_pos, Nat.zero_lt_succ, v_add, v_sub, v_neg, v_iadd, v_lt, v_gt, v_le, v_ge, v_eqi, v_eqs, v_eqb, v_nei, v_nes, v_neb, v_isn, v_notn, v_int, v_abs, v_lenl, v_lenf, v_lent, v_tupl, v_tupt, v_listl, v_listf, v_listt, v_revl, v_sll, v_slt, v_in1, v_cnt, isnB, restE, wipeE, frzS])
open PyProof.Rows (lo1 up1)
/-! ### sizes, integers -/
theorem is_integer_ok (i : Int) : den_is_integer [sI i] = .ok (0, .bl true) [sI i] := rfl
theorem check_integer_ok (i : Int) : den_check_integer [sI i] = .ok (0, .non) [sI i] := by
  rw [den_check_integer, e_den (by rfl) (by rfl)]
  simp only [g_check_integer]
  repeat first | tb_rel | simp only [is_integer_ok]
def Sz (n : Nat) : Prop := 1 ≤ n ∧ n ≤ 26
theorem is_size_ok {n : Nat} (h : Sz n) : den_is_size [sI n] = .ok (0, .bl true) [sI n] := by
  rw [den_is_size, e_den (by rfl) (by rfl)]
  simp only [g_is_size]
  have h1 : decide ((1 : Int) ≤ (n : Int)) = true := decide_eq_true (by have := h.1; omega)
  have h2 : decide ((n : Int) ≤ (u_ALPHABET.length : Nat)) = true := decide_eq_true (by have := h.2; show (n : Int) ≤ ((26 : Nat) : Int); omega)
  have h3 := v_lens (s := u_ALPHABET) (by decide)
  repeat first | tb_rel | simp only [is_integer_ok, h1, h2, h3]
theorem check_size_ok {n : Nat} (h : Sz n) : den_check_size [sI n] = .ok (0, .non) [sI n] := by
  rw [den_check_size, e_den (by rfl) (by rfl)]
  simp only [g_check_size]
  repeat first | tb_rel | simp only [is_size_ok h]
/-! ### is a word -/
def wB (n : Nat) (s : List Nat) : Bool := s.all fun c => decide (lo1 c ∈ u_ALPHABET.take n)
theorem alpha_take' : ∀ n, n < 27 → u_ALPHABET.take n = List.range' 97 n := by decide
theorem alpha_take (n : Nat) (h : n ≤ 26) : u_ALPHABET.take n = List.range' 97 n := alpha_take' n (by omega)
theorem wB_iff {n : Nat} {s : List Nat} (hn : n ≤ 26) (h : asc s = true) : wB n s = true ↔ Ltrs n s := by
  unfold wB
  rw [List.all_eq_true]
  constructor
  · intro hs c hc
    have h1 := hs c hc
    rw [decide_eq_true_eq, alpha_take n hn, List.mem_range'_1] at h1
    unfold lo1 at h1
    unfold Ltr
    split at h1 <;> omega
  · intro hs c hc
    have h1 := hs c hc
    rw [decide_eq_true_eq, alpha_take n hn, List.mem_range'_1]
    unfold Ltr at h1
    unfold lo1
    split <;> omega
theorem is_word_of_s {n : Nat} {s : List Nat} (h : asc s = true) (hl : s.length ≤ 1000000) : den_is_word_of [sI n, sS s] = .ok (0, .bl (wB n s)) [sI n, sS s] := by
  rw [den_is_word_of, e_den (by rfl) (by rfl)]
  simp only [g_is_word_of]
  have hlc : lcK (bName 2) dYes (dOp inD (dBM "str" lowD (dVar 2) dNil) (dSl slD (dC (.str u_ALPHABET)) dNoPart (dPart (dVar 0)))) [2] (s.map fun c => D.str [c]) [sI n, sS s, .un] = .ok (.vl 1 (.lst (s.map fun c => .bl (decide (lo1 c ∈ u_ALPHABET.take n))))) (restE [sI n, sS s, .un] [2] [sI n, sS s, .un]) :=
    lc_each (q := fun c => D.str [c]) (g := fun c => D.bl (decide (lo1 c ∈ u_ALPHABET.take n))) [sI n, sS s, .un] s hl rfl fun c hc => by
      have hc := asc_mem' h hc
      refine ⟨[sI n, sS s, sS [c]], .vl 0 (.bl (decide (lo1 c ∈ u_ALPHABET.take n))), [sI n, sS s, sS [c]], [sI n, sS s, sS [c]], rfl, ?_, rfl, rfl⟩
      have h3 := v_sls (s := u_ALPHABET) (lo := none) (hi := some (n : Int)) (by decide)
      rw [cut_to] at h3
      repeat first | tb_rel | simp only [low1 hc, h3]
  have ha := v_all s (fun c => decide (lo1 c ∈ u_ALPHABET.take n))
  repeat first | tb_rel | simp only [hlc, ha]
  rfl
theorem is_word_of_ok {n : Nat} {s : List Nat} (hn : n ≤ 26) (h : Ltrs n s) (hl : s.length ≤ 1000000) : den_is_word_of [sI n, sS s] = .ok (0, .bl true) [sI n, sS s] := by
  rw [is_word_of_s (h.asc hn) hl, (wB_iff hn (h.asc hn)).mpr h]
/-- no text -/
theorem is_word_of_no {n : Nat} {d : D} (h : isC 2 d = false) : den_is_word_of [sI n, .vl 0 d] = .ok (0, .bl false) [sI n, .vl 0 d] := by
  rw [den_is_word_of, e_den (by rfl) (by rfl)]
  simp only [g_is_word_of]
  cases d with
  | str s => cases h
  | _ => rfl
theorem check_word_ok {n : Nat} {s : List Nat} (hn : n ≤ 26) (h : Ltrs n s) (hl : s.length ≤ 1000000) : den_check_word [sI n, sS s] = .ok (0, .non) [sI n, sS s] := by
  rw [den_check_word, e_den (by rfl) (by rfl)]
  simp only [g_check_word]
  repeat first | tb_rel | simp only [is_word_of_ok hn h hl]
theorem checked_word_ok {n : Nat} {s : List Nat} (hn : Sz n) (h : Ltrs n s) (hl : s.length < 1000000) : den_checked_word [sI n, sS s] = .ok (0, .str (red s)) [sI n, sS s] := by
  rw [den_checked_word, e_den (by rfl) (by rfl)]
  simp only [g_checked_word]
  repeat first | tb_rel | simp only [check_size_ok hn, check_word_ok hn.2 h (Nat.le_of_lt hl), reduced_of_ok (h.asc hn.2) hl]
theorem reduced_ok {n : Nat} {s : List Nat} (hn : Sz n) (h : Ltrs n s) (hl : s.length < 1000000) : den_reduced [sI n, sS s] = .ok (0, .str (red s)) [sI n, sS s] := by
  rw [den_reduced, e_den (by rfl) (by rfl)]
  simp only [g_reduced]
  repeat first | tb_rel | simp only [checked_word_ok hn h hl]
theorem inverse_ok {n : Nat} {s : List Nat} (hn : Sz n) (h : Ltrs n s) (hl : s.length < 1000000) : den_inverse [sI n, sS s] = .ok (0, .str (inv (red s))) [sI n, sS s] := by
  rw [den_inverse, e_den (by rfl) (by rfl)]
  simp only [g_inverse]
  have hr := red_len s
  repeat first | tb_rel | simp only [checked_word_ok hn h hl, inverse_of_ok (asc_red (h.asc hn.2)) (by omega)]
theorem is_word_ok {n : Nat} {d : D} {b : Bool} (hn : Sz n) (h : den_is_word_of [sI n, .vl 0 d] = .ok (0, .bl b) [sI n, .vl 0 d]) : den_is_word [sI n, .vl 0 d] = .ok (0, .bl b) [sI n, .vl 0 d] := by
  rw [den_is_word, e_den (by rfl) (by rfl)]
  simp only [g_is_word]
  repeat first | tb_rel | simp only [check_size_ok hn, h]
/-! ### products, powers -/
def rep (k : Nat) (w : List Nat) : List Nat := (List.replicate k w).flatten
theorem rep_len (k : Nat) (w : List Nat) : (rep k w).length = w.length * k := by
  unfold rep
  rw [List.length_flatten, List.map_replicate, List.sum_replicate_nat, Nat.mul_comm]
theorem Ltrs.rep {n : Nat} {w : List Nat} (h : Ltrs n w) (k : Nat) : Ltrs n (Wf.rep k w) := fun c hc => by
  unfold Wf.rep at hc
  obtain ⟨l, hl, hc⟩ := List.mem_flatten.mp hc
  rw [List.eq_of_mem_replicate hl] at hc
  exact h c hc
theorem asc_of {s t : List Nat} (h : asc s = true) (hs : ∀ c ∈ t, c ∈ s) : asc t = true := List.all_eq_true.mpr fun c hc => decide_eq_true (asc_mem' h (hs c hc))
theorem asc_rep {w : List Nat} (h : asc w = true) (k : Nat) : asc (rep k w) = true := asc_of h fun c hc => by
  unfold Wf.rep at hc
  obtain ⟨l, hl, hc⟩ := List.mem_flatten.mp hc
  rwa [List.eq_of_mem_replicate hl] at hc
theorem asc_inv {w : List Nat} (h : asc w = true) : asc (inv w) = true := List.all_eq_true.mpr fun c hc => decide_eq_true (by
  unfold inv at hc
  obtain ⟨x, hx, rfl⟩ := List.mem_map.mp hc
  have := asc_mem' h (show x ∈ w by simpa using hx)
  unfold sw1
  split <;> (try split) <;> omega)
theorem v_muls {s : List Nat} {k : Nat} (hk : k < 1000000) (h : s.length * k ≤ 1000000) : mulD (.str s) (.int (k : Int)) = some (0, .str (rep k s)) := by
  show (if -9223372036854775808 ≤ (k : Int) ∧ (k : Int) < 9223372036854775808 ∧ s.length * (k : Int).toNat ≤ LL then some ((0 : Nat), D.str (List.replicate (k : Int).toNat s).flatten) else none) = _
  rw [Int.toNat_natCast, if_pos ⟨by omega, by omega, by show s.length * k ≤ 16777216; omega⟩]
  rfl
/-- w, done k times over (backwards for k below 0) -/
def powW (w : List Nat) (k : Int) : List Nat := if 0 ≤ k then rep k.toNat w else rep (-k).toNat (inv w)
theorem power_of_ok {w : List Nat} {k : Int} (h : asc w = true) (hk : k.natAbs < 1000000) (hl : w.length * k.natAbs < 1000000) (hw : w.length ≤ 1000000) : den_power_of [sS w, sI k] = .ok (0, .str (red (powW w k))) [sS w, sI k] := by
  rw [den_power_of, e_den (by rfl) (by rfl)]
  simp only [g_power_of]
  unfold powW
  by_cases h0 : 0 ≤ k
  · obtain ⟨n, hn⟩ := Int.eq_ofNat_of_zero_le h0
    have hA : k.natAbs = n := by omega
    rw [hA] at hl hk
    have e : decide ((0 : Int) ≤ k) = true := decide_eq_true h0
    have hm : mulD (.str w) (.int k) = some (0, .str (rep n w)) := by rw [hn]; exact v_muls (by omega) (by omega)
    have hr := reduced_of_ok (asc_rep h n) (by rw [rep_len]; omega)
    repeat first | tb_rel | simp only [e, hm, hr]
    rw [if_pos h0, hn, Int.toNat_natCast]
  · obtain ⟨n, hn⟩ := Int.eq_ofNat_of_zero_le (show 0 ≤ -k by omega)
    have hA : k.natAbs = n := by omega
    rw [hA] at hl hk
    have e : decide ((0 : Int) ≤ k) = false := decide_eq_false h0
    have hm := v_muls (s := inv w) (k := n) (by omega) (by rw [inv_len]; omega)
    have hr := reduced_of_ok (asc_rep (asc_inv h) n) (by rw [rep_len, inv_len]; omega)
    repeat first | tb_rel | simp only [e, inverse_of_ok h hw, hn, hm, hr]
    rw [if_neg h0, Int.toNat_natCast]
theorem power_ok {n : Nat} {w : List Nat} {k : Int} (hn : Sz n) (h : Ltrs n w) (hk : k.natAbs < 1000000) (hl : w.length * k.natAbs < 1000000) (hw : w.length < 1000000) : den_power [sI n, sS w, sI k] = .ok (0, .str (red (powW (red w) k))) [sI n, sS w, sI k] := by
  rw [den_power, e_den (by rfl) (by rfl)]
  simp only [g_power]
  have hr := red_len w
  have hp := power_of_ok (w := red w) (k := k) (asc_red (h.asc hn.2)) hk (Nat.lt_of_le_of_lt (Nat.mul_le_mul_right _ hr) hl) (by omega)
  repeat first | tb_rel | simp only [checked_word_ok hn h hw, check_integer_ok, hp]
theorem red_powW (w : List Nat) (k : Int) : red (powW (red w) k) = red (powW w k) := by
  unfold powW
  split
  · exact (eqv_rep (eqv_red w) _).red
  · exact (eqv_rep (eqv_red w).inv _).red
def wT (ws : List (List Nat)) : D := .tup (ws.map fun w => .str w)
theorem are_words_of_ok {n : Nat} {ws : List (List Nat)} (hn : n ≤ 26) (h : ∀ w ∈ ws, Ltrs n w ∧ w.length ≤ 1000000) (hl : ws.length ≤ 1000000) : den_are_words_of [sI n, .vl 0 (wT ws)] = .ok (0, .bl true) [sI n, .vl 0 (wT ws)] := by
  rw [den_are_words_of, e_den (by rfl) (by rfl)]
  simp only [g_are_words_of, wT]
  have hlc : lcK (bName 2) dYes (dCall den_is_word_of [false, false] (dCons (dVar 0) (dCons (dVar 2) dNil))) [2] (ws.map fun w => D.str w) [sI n, .vl 0 (wT ws), .un] = .ok (.vl 1 (.lst (ws.map fun w => .bl true))) (restE [sI n, .vl 0 (wT ws), .un] [2] [sI n, .vl 0 (wT ws), .un]) :=
    lc_each (q := fun w => D.str w) (g := fun w => D.bl true) [sI n, .vl 0 (wT ws), .un] ws hl rfl fun w hw => by
      obtain ⟨h1, h2⟩ := h w hw
      refine ⟨[sI n, .vl 0 (wT ws), sS w], .vl 0 (.bl true), [sI n, .vl 0 (wT ws), sS w], [sI n, .vl 0 (wT ws), sS w], rfl, ?_, rfl, rfl⟩
      repeat first | tb_rel | simp only [is_word_of_ok hn h1 h2]
  simp only [wT] at hlc
  have ha := v_all ws (fun _ => true)
  have hb : (ws.all fun _ => true) = true := by simp
  rw [hb] at ha
  repeat first | tb_rel | simp only [hlc, ha]
theorem product_ok {n : Nat} {ws : List (List Nat)} (hn : Sz n) (h : ∀ w ∈ ws, Ltrs n w ∧ w.length ≤ 1000000) (hl : ws.length ≤ 1000000) (hs : (ws.map (·.length)).sum < 1000000) : den_product [sI n, .vl 0 (wT ws)] = .ok (0, .str (red ws.flatten)) [sI n, .vl 0 (wT ws)] := by
  rw [den_product, e_den (by rfl) (by rfl)]
  have hj := v_joint ws (fun w => w) (by rw [List.map_id']; omega)
  rw [List.map_id'] at hj
  have hj : joinD (.str []) [wT ws] = some (0, .str ws.flatten) := hj
  have hf : asc ws.flatten = true := List.all_eq_true.mpr fun c hc => decide_eq_true (by
    obtain ⟨w, hw, hc⟩ := List.mem_flatten.mp hc
    exact ((h w hw).1 c hc).lt hn.2)
  have hr := reduced_of_ok hf (by rw [List.length_flatten]; exact hs)
  have hcw : den_check_words [sI n, .vl 0 (wT ws)] = .ok (0, .non) [sI n, .vl 0 (wT ws)] := by
    rw [den_check_words, e_den (by rfl) (by rfl)]
    simp only [g_check_words]
    repeat first | tb_rel | simp only [are_words_of_ok hn.2 h hl]
  simp only [g_product]
  repeat first | tb_rel | simp only [check_size_ok hn, hcw, hj, hr]
end Wf

set_option Elab.async false
set_option linter.all false
set_option maxRecDepth 100000
set_option maxHeartbeats 1000000
namespace Wf
open DN L2
local macro_rules | `(tactic| tb_rel) => `(tactic| simp only [e_seq, e_seqN, e_seqR, e_seqB, e_seqC, e_pass, e_brk, e_cnt, e_drop, e_dropK, e_ret, e_retK, e_retN, e_set, setK, e_asg, asgK, e_par, parK, R.bind_ok, R.bind_exc, R.bind_bad, e_var, e_varK0, e_varK1, e_varKi, e_c, e_un, unK, e_op, e_opK, opK2, e_nil, e_cons, e_consK, e_consK2, e_cb, cbK, e_bm, e_bmKs, bmK2, e_noPart, e_part, partK, e_sl, e_slK, e_slK1, slK2, e_test, testK, e_and, e_andT, e_andF, e_or, e_orT, e_orF, e_not, e_notK, e_if, e_ifT, e_ifF, e_ifS, e_andV, e_andVT, e_andVF, e_orV, e_orVT, e_orVF, e_notV, e_notVK, e_chain, e_chK, e_chM, e_chMb, e_opv, e_ch3T, e_ch3F, e_isi, isiK, e_tup, tupK, e_lst, lstK, e_call, e_callK, e_callL, e_callK2, e_appA, e_appAK, e_appAK2, e_callKw, e_kwK, e_kwL, e_kwK2, e_aug, e_augL, augK, e_app, e_appL, appK, e_setI, e_setIK, e_setIL, setIK2, e_augI, e_augIL, e_augIK, e_augIR, e_augI0, e_augI1, augI2, e_for, e_forK, e_it, itK, e_rng1, rng1K, e_rng2, rng2K, e_lc, e_yes, passN, pass1, fz1, fzs, backN, back1, rds, e_rd0, e_rd1, e_rda, e_rdS0, e_rdS1, e_rdS2, e_rdS3, Sl.o1, Sl.re, fins, fin1, argOk, bName, bNil, bCons, bTup, out_some, out_none, e_finN, e_finR, List.getElem?_cons_zero, List.getElem?_cons_succ, List.getElem?_nil, List.set_cons_zero, List.set_cons_succ, List.length_cons, List.length_nil, List.cons_append, List.nil_append, List.append_nil, List.replicate_succ, List.replicate_zero, Option.map_some, Option.map_none, Option.bind_some, pick_cons, pick_nil', List.map_cons, List.map_nil, List.any_cons, List.any_nil, isC, Bool.not_true, Bool.not_false, Bool.or_false, Bool.or_true, Bool.true_or, Bool.false_or, Nat.reduceAdd, Nat.reduceSub, Nat.reduceLT, Nat.reduceLeDiff, Nat.reduceEqDiff, reduceIte, and_self, if_true, ite_true, true_and, and_true, Nat.zero_add, List.length_map, Nat.lt_add_left_iff_pos, Nat.zero_lt_succ, v_add, v_sub, v_neg, v_iadd, v_lt, v_gt, v_le, v_ge, v_eqi, v_eqs, v_eqb, v_nei, v_nes, v_neb, v_isn, v_notn, v_int, v_abs, v_lenl, v_lenf, v_lent, v_tupl, v_tupt, v_listl, v_listf, v_listt, v_revl, v_sll, v_slt, v_in1, v_cnt, isnB, restE, wipeE, frzS])
open PyProof.Rows (lo1 up1)
/-! ### the law's signs -/
def sg (n : Nat) : List Nat := (List.range n).flatMap fun i => [97 + i, 65 + i]
theorem sg1 : den_law_signs [sI 1] = .ok (0, .str (sg 1)) [sI 1] := by kernel_rfl
theorem sg2 : den_law_signs [sI 2] = .ok (0, .str (sg 2)) [sI 2] := by kernel_rfl
theorem sg3 : den_law_signs [sI 3] = .ok (0, .str (sg 3)) [sI 3] := by kernel_rfl
theorem sg26 : den_law_signs [sI 26] = .ok (0, .str (sg 26)) [sI 26] := by kernel_rfl
def S3 (n : Nat) : Prop := n = 1 ∨ n = 2 ∨ n = 3
theorem S3.sz {n : Nat} (h : S3 n) : Sz n := by unfold S3 at h; unfold Sz; omega
theorem S3.le {n : Nat} (h : S3 n) : n ≤ 26 := h.sz.2
theorem sg_ok {n : Nat} (h : S3 n) : den_law_signs [sI n] = .ok (0, .str (sg n)) [sI n] := by
  rcases h with rfl | rfl | rfl
  · exact sg1
  · exact sg2
  · exact sg3
theorem sg_len (n : Nat) : (sg n).length = 2 * n := by
  unfold sg
  rw [List.length_flatMap]
  have : List.map (fun a => [97 + a, 65 + a].length) (List.range n) = List.replicate n 2 := by
    rw [List.eq_replicate_iff]
    exact ⟨by simp, fun b hb => by obtain ⟨a, _, rfl⟩ := List.mem_map.mp hb; rfl⟩
  rw [this, List.sum_replicate_nat]
  omega
theorem sg_mem {n c : Nat} : c ∈ sg n ↔ Ltr n c := by
  unfold sg Ltr
  rw [List.mem_flatMap]
  constructor
  · rintro ⟨i, hi, hc⟩
    rw [List.mem_range] at hi
    simp at hc
    omega
  · rintro (h | h)
    · exact ⟨c - 97, by rw [List.mem_range]; omega, by simp; omega⟩
    · exact ⟨c - 65, by rw [List.mem_range]; omega, by simp; omega⟩
/-! ### keys -/
def kc (c : Nat) : Nat := 2 * (lo1 c - 97) + (if 65 ≤ c ∧ c ≤ 90 then 1 else 0)
def kD (w : List Nat) : D := .tup [.int (w.length : Nat), .tup (w.map fun c => .int (kc c : Nat))]
def kL (w : List Nat) : D := .tup [.int (w.length : Nat), .lst (w.map fun c => .int (kc c : Nat))]
theorem idx_lo : ∀ c, c < 128 → Ltr 26 c → u_ALPHABET.idxOf (lo1 c) = lo1 c - 97 ∧ lo1 c ∈ u_ALPHABET := by
  unfold Ltr
  decide
theorem idx_sg : ∀ c, c < 128 → Ltr 26 c → (sg 26).idxOf c = kc c := by
  unfold Ltr
  decide +kernel
theorem isup1 {c : Nat} (h : c < 128) : isupD (.str [c]) [] = some (0, .bl (decide (65 ≤ c ∧ c ≤ 90))) := by
  rw [v_isup (asc1 h)]
  have : ([c].any isUp && !([c].any isLo)) = decide (65 ≤ c ∧ c ≤ 90) := by
    unfold isUp isLo
    rw [Bool.eq_iff_iff]
    simp
    omega
  rw [this]
theorem key_ok {w : List Nat} (h : Ltrs 26 w) (hl : w.length ≤ 1000000) : den_word_key [sS w] = .ok (0, kD w) [sS w] := by
  rw [den_word_key, e_den (by rfl) (by rfl)]
  simp only [g_word_key]
  have hlc : lcK (bName 1) dYes (dOp addD (dOp mulD (dC (.int 2)) (dBM "str" indexD (dC (.str u_ALPHABET)) (dCons (dBM "str" lowD (dVar 1) dNil) dNil))) (dCB intD (dCons (dBM "str" isupD (dVar 1) dNil) dNil))) [1] (w.map fun c => D.str [c]) [sS w, .un] = .ok (.vl 1 (.lst (w.map fun c => .int (kc c : Nat)))) (restE [sS w, .un] [1] [sS w, .un]) :=
    lc_each (q := fun c => D.str [c]) (g := fun c => D.int (kc c : Nat)) [sS w, .un] w hl rfl fun c hc => by
      have h1 := h c hc
      have h2 : c < 128 := h1.lt (by decide)
      obtain ⟨h3, h4⟩ := idx_lo c h2 h1
      have h5 := v_idx (s := u_ALPHABET) h4
      rw [h3] at h5
      refine ⟨[sS w, sS [c]], .vl 0 (.int (kc c : Nat)), [sS w, sS [c]], [sS w, sS [c]], rfl, ?_, rfl, rfl⟩
      have h6 : mulD (.int 2) (.int ((lo1 c - 97 : Nat) : Int)) = some (0, .int (2 * ((lo1 c - 97 : Nat) : Int))) := v_mul (.inl ⟨by decide, by decide⟩)
      have h7 : 2 * ((lo1 c - 97 : Nat) : Int) + (if decide (65 ≤ c ∧ c ≤ 90) = true then 1 else 0) = ((kc c : Nat) : Int) := by
        unfold kc
        by_cases hu : 65 ≤ c ∧ c ≤ 90
        · simp [hu]
        · simp [hu]
      repeat first | tb_rel | simp only [low1 h2, isup1 h2, h5, h6, v_intb]
      rw [h7]
  have hn := v_lens (s := w) (by omega)
  repeat first | tb_rel | simp only [hlc, hn]
  rfl
theorem lkey_ok {w : List Nat} (h : Ltrs 26 w) (hl : w.length ≤ 1000000) : den_law_key [sS w] = .ok (0, kL w) [sS w] := by
  rw [den_law_key, e_den (by rfl) (by rfl)]
  simp only [g_law_key]
  have hlc : lcK (bName 2) dYes (dBM "str" indexD (dVar 1) (dCons (dVar 2) dNil)) [2] (w.map fun c => D.str [c]) [sS w, sS (sg 26), .un] = .ok (.vl 1 (.lst (w.map fun c => .int (kc c : Nat)))) (restE [sS w, sS (sg 26), .un] [2] [sS w, sS (sg 26), .un]) :=
    lc_each (q := fun c => D.str [c]) (g := fun c => D.int (kc c : Nat)) [sS w, sS (sg 26), .un] w hl rfl fun c hc => by
      have h1 := h c hc
      have h2 : c < 128 := h1.lt (by decide)
      have h5 := v_idx (s := sg 26) (sg_mem.mpr h1)
      rw [idx_sg c h2 h1] at h5
      refine ⟨[sS w, sS (sg 26), sS [c]], .vl 0 (.int (kc c : Nat)), [sS w, sS (sg 26), sS [c]], [sS w, sS (sg 26), sS [c]], rfl, ?_, rfl, rfl⟩
      repeat first | tb_rel | simp only [h5]
  have hn := v_lens (s := w) (by omega)
  repeat first | tb_rel | simp only [hlc, hn, sg26]
  rfl
/-! ### the order of keys -/
def nums (l : List Nat) : List D := l.map fun c => .int (kc c : Nat)
theorem nums_alike : ∀ a b : List Nat, PySem.W.alikeAll (pds (nums a)) (pds (nums b)) = true
  | [], b => by cases b <;> rfl
  | _ :: _, [] => rfl
  | x :: a, y :: b => by
    show (true && PySem.W.alikeAll (pds (nums a)) (pds (nums b))) = true
    rw [nums_alike a b]; rfl
theorem nums_ok : ∀ a : List Nat, okEs (nums a) = true
  | [] => rfl
  | x :: a => by show (true && okEs (nums a)) = true; rw [nums_ok a]; rfl
theorem nums_dep : ∀ a : List Nat, deps (nums a) = 0
  | [] => rfl
  | x :: a => by show max 0 (deps (nums a)) = 0; rw [nums_dep a]; rfl
theorem kD_can (u v : List Nat) : canLt (kD u) (kD v) = true := by
  show ((true && (PySem.W.alikeAll (pds (nums u)) (pds (nums v)) && true)) && true && (true && (okEs (nums u) && true)) && (true && (okEs (nums v) && true)) && decide (max 0 (max (deps (nums u) + 1) 0) + 1 ≤ 64)) = true
  rw [nums_alike, nums_ok, nums_ok, nums_dep]
  decide
theorem kL_can (u v : List Nat) : canLt (kL u) (kL v) = true := kD_can u v
theorem kD_lt (u v : List Nat) : ltD (kD u) (kD v) = some (0, .bl (ltb (kD u) (kD v))) := if_pos (kD_can u v)
theorem kL_lt (u v : List Nat) : ltD (kL u) (kL v) = some (0, .bl (ltb (kD u) (kD v))) := if_pos (kL_can u v)
def before (u v : List Nat) : Bool := ltb (kD u) (kD v)
theorem is_before_ok {n : Nat} {u v : List Nat} (hn : Sz n) (hu : Ltrs n u) (hv : Ltrs n v) (lu : u.length < 1000000) (lv : v.length < 1000000) : den_is_before [sI n, sS u, sS v] = .ok (0, .bl (before (red u) (red v))) [sI n, sS u, sS v] := by
  rw [den_is_before, e_den (by rfl) (by rfl)]
  simp only [g_is_before]
  have h1 := key_ok (hu.red.mono hn.2) (by have := red_len u; omega)
  have h2 := key_ok (hv.red.mono hn.2) (by have := red_len v; omega)
  repeat first | tb_rel | simp only [checked_word_ok hn hu lu, check_word_ok hn.2 hv (Nat.le_of_lt lv), reduced_of_ok (hv.asc hn.2) lv, h1, h2, kD_lt]
  rfl
/-! ### sums -/
def sumsD (n : Nat) (w : List Nat) : D := .tup ((List.range' 97 n).map fun a => .int (ex a w))
theorem up_sw {a : Nat} (h : 97 ≤ a ∧ a < 123) : up1 a = sw1 a := by
  unfold up1 sw1
  split <;> (try split) <;> (try split) <;> omega
theorem sums_of_ok {n : Nat} {w : List Nat} (hn : n ≤ 26) : den_sums_of [sI n, sS w] = .ok (0, sumsD n w) [sI n, sS w] := by
  rw [den_sums_of, e_den (by rfl) (by rfl)]
  simp only [g_sums_of]
  have h3 := v_sls (s := u_ALPHABET) (lo := none) (hi := some (n : Int)) (by decide)
  rw [cut_to, alpha_take n hn] at h3
  have hlc : lcK (bName 2) dYes (dOp subD (dBM "str" countD (dVar 1) (dCons (dVar 2) dNil)) (dBM "str" countD (dVar 1) (dCons (dBM "str" uppD (dVar 2) dNil) dNil))) [2] ((List.range' 97 n).map fun c => D.str [c]) [sI n, sS w, .un] = .ok (.vl 1 (.lst ((List.range' 97 n).map fun a => .int (ex a w)))) (restE [sI n, sS w, .un] [2] [sI n, sS w, .un]) :=
    lc_each (q := fun c => D.str [c]) (g := fun a => D.int (ex a w)) [sI n, sS w, .un] (List.range' 97 n) (by simp; omega) rfl fun c hc => by
      rw [List.mem_range'_1] at hc
      have h2 : c < 128 := by omega
      refine ⟨[sI n, sS w, sS [c]], .vl 0 (.int (ex c w)), [sI n, sS w, sS [c]], [sI n, sS w, sS [c]], rfl, ?_, rfl, rfl⟩
      repeat first | tb_rel | simp only [upp1 h2]
      rw [up_sw (by omega)]
      rfl
  repeat first | tb_rel | simp only [h3, hlc]
  rfl
theorem sumsD_red (n : Nat) (w : List Nat) : sumsD n (red w) = sumsD n w := by
  unfold sumsD
  congr 1
  apply List.map_congr_left
  intro a _
  rw [ex_red]
theorem sums_ok {n : Nat} {w : List Nat} (hn : Sz n) (h : Ltrs n w) (hl : w.length < 1000000) : den_sums [sI n, sS w] = .ok (0, sumsD n w) [sI n, sS w] := by
  rw [den_sums, e_den (by rfl) (by rfl)]
  simp only [g_sums]
  repeat first | tb_rel | simp only [checked_word_ok hn h hl, sums_of_ok hn.2, sumsD_red]
end Wf

set_option Elab.async false
set_option linter.all false
set_option maxRecDepth 100000
set_option maxHeartbeats 1000000
namespace Wf
open DN L2
local macro_rules | `(tactic| tb_rel) => `(tactic| simp only [e_seq, e_seqN, e_seqR, e_seqB, e_seqC, e_pass, e_brk, e_cnt, e_drop, e_dropK, e_ret, e_retK, e_retN, e_set, setK, e_asg, asgK, e_par, parK, R.bind_ok, R.bind_exc, R.bind_bad, e_var, e_varK0, e_varK1, e_varKi, e_c, e_un, unK, e_op, e_opK, opK2, e_nil, e_cons, e_consK, e_consK2, e_cb, cbK, e_bm, e_bmKs, bmK2, e_noPart, e_part, partK, e_sl, e_slK, e_slK1, slK2, e_test, testK, e_and, e_andT, e_andF, e_or, e_orT, e_orF, e_not, e_notK, e_if, e_ifT, e_ifF, e_ifS, e_andV, e_andVT, e_andVF, e_orV, e_orVT, e_orVF, e_notV, e_notVK, e_chain, e_chK, e_chM, e_chMb, e_opv, e_ch3T, e_ch3F, e_isi, isiK, e_tup, tupK, e_lst, lstK, e_call, e_callK, e_callL, e_callK2, e_appA, e_appAK, e_appAK2, e_callKw, e_kwK, e_kwL, e_kwK2, e_aug, e_augL, augK, e_app, e_appL, appK, e_setI, e_setIK, e_setIL, setIK2, e_augI, e_augIL, e_augIK, e_augIR, e_augI0, e_augI1, augI2, e_for, e_forK, e_it, itK, e_rng1, rng1K, e_rng2, rng2K, e_lc, e_yes, passN, pass1, fz1, fzs, backN, back1, rds, e_rd0, e_rd1, e_rda, e_rdS0, e_rdS1, e_rdS2, e_rdS3, Sl.o1, Sl.re, fins, fin1, argOk, bName, bNil, bCons, bTup, out_some, out_none, e_finN, e_finR, List.getElem?_cons_zero, List.getElem?_cons_succ, List.getElem?_nil, List.set_cons_zero, List.set_cons_succ, List.length_cons, List.length_nil, List.cons_append, List.nil_append, List.append_nil, List.replicate_succ, List.replicate_zero, Option.map_some, Option.map_none, Option.bind_some, pick_cons, pick_nil', List.map_cons, List.map_nil, List.any_cons, List.any_nil, isC, Bool.not_true, Bool.not_false, Bool.or_false, Bool.or_true, Bool.true_or, Bool.false_or, Nat.reduceAdd, Nat.reduceSub, Nat.reduceLT, Nat.reduceLeDiff, Nat.reduceEqDiff, reduceIte, and_self, if_true, ite_true, true_and, and_true, Nat.zero_add, List.length_map, Nat.lt_add_left_iff_pos, Nat.zero_lt_succ, v_add, v_sub, v_neg, v_iadd, v_lt, v_gt, v_le, v_ge, v_eqi, v_eqs, v_eqb, v_nei, v_nes, v_neb, v_isn, v_notn, v_int, v_abs, v_lenl, v_lenf, v_lent, v_tupl, v_tupt, v_listl, v_listf, v_listt, v_revl, v_sll, v_slt, v_in1, v_cnt, isnB, restE, wipeE, frzS])
open PyProof.Rows (lo1 up1)
/-! ### the same -/
mutual
def okW : D → Bool
  | .lst ds => decide (ds.length ≤ 1000000) && okWs ds
  | .tup ds => decide (ds.length ≤ 1000000) && okWs ds
  | .fls _ => false | .dic _ _ => false
  | _ => true
def okWs : List D → Bool
  | [] => true
  | d :: ds => okW d && okWs ds
end
theorem okWs_mem : ∀ {ds : List D} {d : D}, okWs ds = true → d ∈ ds → okW d = true
  | [], _, _, h => by cases h
  | e :: ds, d, h, hm => by
    have h := Bool.and_eq_true_iff.mp (show (okW e && okWs ds) = true from h)
    rcases List.mem_cons.mp hm with rfl | hm
    · exact h.1
    · exact okWs_mem h.2 hm
theorem deps_mem : ∀ {ds : List D} {d : D}, d ∈ ds → dep d ≤ deps ds
  | [], _, h => by cases h
  | e :: ds, d, hm => by
    show dep d ≤ max (dep e) (deps ds)
    rcases List.mem_cons.mp hm with rfl | hm
    · exact Nat.le_max_left ..
    · exact Nat.le_trans (deps_mem hm) (Nat.le_max_right ..)
theorem rng_ok {n : Nat} (h : n ≤ 1000000) : (-1000000 ≤ (n : Int) ∧ (n : Int) ≤ 1000000) = True := eq_true (by omega)
theorem same_seq {k : Nat} {d : D} {ds : List D} (hd : d = .lst ds ∨ d = .tup ds) (hl : ds.length ≤ 1000000) (h : ∀ e ∈ ds, den_law_same k [.vl 0 e, .vl 0 e] = .ok (0, .bl true) [.vl 0 e, .vl 0 e]) : den_law_same (k + 1) [.vl 0 d, .vl 0 d] = .ok (0, .bl true) [.vl 0 d, .vl 0 d] := by
  rw [den_law_same, e_den (by rfl) (by rfl)]
  have hlc : lcK (bName 2) dYes (dCall (den_law_same k) [false, false] (dCons (dOp ixD (dVar 0) (dVar 2)) (dCons (dOp ixD (dVar 1) (dVar 2)) dNil))) [2] (intsFrom 0 ds.length) [.vl 0 d, .vl 0 d, .un] = .ok (.vl 1 (.lst ((List.range ds.length).map fun i => .bl true))) (restE [.vl 0 d, .vl 0 d, .un] [2] [.vl 0 d, .vl 0 d, .un]) :=
    lc_each (q := fun (i : Nat) => D.int (0 + (i : Int))) (g := fun i => D.bl true) [.vl 0 d, .vl 0 d, .un] (List.range ds.length) (by simpa using hl) rfl fun i hi => by
      rw [List.mem_range] at hi
      have hx : ds[i]? = some ds[i] := List.getElem?_eq_getElem hi
      refine ⟨[.vl 0 d, .vl 0 d, .vl 0 (.int (0 + (i : Int)))], .vl 0 (.bl true), [.vl 0 d, .vl 0 d, .vl 0 (.int (0 + (i : Int)))], [.vl 0 d, .vl 0 d, .vl 0 (.int (0 + (i : Int)))], rfl, ?_, rfl, rfl⟩
      rw [Int.zero_add]
      have h1 : ixD d (.int (i : Int)) = some (0, ds[i]) := by
        rcases hd with rfl | rfl
        · exact v_ixl hx
        · exact v_ixt hx
      repeat first | tb_rel | simp only [h1, h _ (List.getElem_mem hi)]
  have ha := v_all (List.range ds.length) (fun _ => true)
  have hb : ((List.range ds.length).all fun _ => true) = true := by simp
  rw [hb] at ha
  simp only [g_law_same]
  rcases hd with rfl | rfl
  · repeat first | tb_rel | simp only [hlc, ha, rng_ok hl, beq_self_eq_true, Int.toNat_natCast]
  · repeat first | tb_rel | simp only [hlc, ha, rng_ok hl, beq_self_eq_true, Int.toNat_natCast]
theorem same_ok : ∀ (k : Nat) (d : D), dep d < k → okW d = true → den_law_same k [.vl 0 d, .vl 0 d] = .ok (0, .bl true) [.vl 0 d, .vl 0 d]
  | 0, _, h, _ => absurd h (Nat.not_lt_zero _)
  | k + 1, .lst ds, h, hw => by
    have hw := Bool.and_eq_true_iff.mp (show (decide (ds.length ≤ 1000000) && okWs ds) = true from hw)
    have h : deps ds + 1 < k + 1 := h
    exact same_seq (.inl rfl) (of_decide_eq_true hw.1) fun e he => same_ok k e (Nat.lt_of_le_of_lt (deps_mem he) (by omega)) (okWs_mem hw.2 he)
  | k + 1, .tup ds, h, hw => by
    have hw := Bool.and_eq_true_iff.mp (show (decide (ds.length ≤ 1000000) && okWs ds) = true from hw)
    have h : deps ds + 1 < k + 1 := h
    exact same_seq (.inr rfl) (of_decide_eq_true hw.1) fun e he => same_ok k e (Nat.lt_of_le_of_lt (deps_mem he) (by omega)) (okWs_mem hw.2 he)
  | k + 1, .fls _, _, hw => by cases hw
  | k + 1, .dic _ _, _, hw => by cases hw
  | k + 1, .non, _, _ => by
    rw [den_law_same, e_den (by rfl) (by rfl)]
    simp only [g_law_same]
    repeat first | tb_rel
  | k + 1, .bl b, _, _ => by
    rw [den_law_same, e_den (by rfl) (by rfl)]
    simp only [g_law_same]
    repeat first | tb_rel | simp only [beq_self_eq_true]
  | k + 1, .int b, _, _ => by
    rw [den_law_same, e_den (by rfl) (by rfl)]
    simp only [g_law_same]
    repeat first | tb_rel | simp only [beq_self_eq_true]
  | k + 1, .str b, _, _ => by
    rw [den_law_same, e_den (by rfl) (by rfl)]
    simp only [g_law_same]
    repeat first | tb_rel | simp only [beq_self_eq_true]
/-! ### drawn words -/
abbrev pS (p : Pot) : Sl := .io 1 p.d
theorem mul2 {n : Nat} : mulD (.int 2) (.int (n : Int)) = some (0, .int (2 * (n : Int))) := v_mul (.inl ⟨by decide, by decide⟩)
theorem pick_sg {n : Nat} (hn : Sz n) {r : Int} (h : 0 ≤ r ∧ r < 2 * (n : Int)) : ∃ c, ixD (.str (sg n)) (.int r) = some (0, .str [c]) ∧ Ltr n c := by
  obtain ⟨j, rfl⟩ := Int.eq_ofNat_of_zero_le h.1
  have hj : j < (sg n).length := by rw [sg_len]; omega
  have hx : (sg n)[j]? = some (sg n)[j] := List.getElem?_eq_getElem hj
  exact ⟨(sg n)[j], v_ixs (by rw [sg_len]; have := hn.2; omega) hx, sg_mem.mp (List.getElem_mem hj)⟩
def lsE : Ev → R T := (dOp ixD (dVar 3) (dCall den_law_take [true, false] (dCons (dVar 0) (dCons (dOp mulD (dC (.int 2)) (dVar 1)) dNil))))
theorem looseL_ok {n : Nat} (hn : Sz n) {m : Sl} : ∀ (l : List Nat) (acc : List D) (p : Pot) (x : Sl), ∃ (p' : Pot) (cs : List Nat) (y : Sl), dLcL (bName 4) dYes lsE [4] (l.map fun (i : Nat) => D.int (0 + (i : Int))) acc [pS p, sI n, m, sS (sg n), x] = .ok (acc ++ sgs cs) [pS p', sI n, m, sS (sg n), y] ∧ cs.length = l.length ∧ Ltrs n cs
  | [], acc, p, x => ⟨p, [], x, by simp [sgs]; rfl, rfl, fun _ h => by cases h⟩
  | i :: l, acc, p, x => by
    obtain ⟨r, p1, h1, h2, h3⟩ := take_ok p (m := 2 * (n : Int)) (by have := hn.1; have := hn.2; omega)
    obtain ⟨c, h4, h5⟩ := pick_sg hn ⟨h2, h3⟩
    obtain ⟨p', cs, y, h6, h7, h8⟩ := looseL_ok hn (m := m) l (acc ++ [.str [c]]) p1 (sI (0 + (i : Int)))
    refine ⟨p', c :: cs, y, ?_, by simp [h7], fun x hx => by rcases List.mem_cons.mp hx with rfl | hx; exact h5; exact h8 x hx⟩
    have hs : lsE [pS p, sI n, m, sS (sg n), sI (0 + (i : Int))] = .ok (.vl 0 (.str [c])) [pS p1, sI n, m, sS (sg n), sI (0 + (i : Int))] := by
      simp only [lsE]
      repeat first | tb_rel | simp only [mul2, h1, h4]
    rw [List.map_cons, dLcL]
    repeat first | tb_rel | simp only [hs]
    rw [h6]
    simp [sgs]
theorem loose_ok {n : Nat} (hn : S3 n) {k : Nat} (hk : k ≤ 10000) (p : Pot) : ∃ (p' : Pot) (w : List Nat), den_law_loose [pS p, sI n, sI k] = .ok (0, .str w) [pS p', sI n, sI k] ∧ w.length = k ∧ Ltrs n w := by
  rw [den_law_loose, e_den (by rfl) (by rfl)]
  have hg : g_law_loose = (dSeq (dSet 3 (dCall den_law_signs [false] (dCons (dVar 1) dNil))) (dRet (dBM "str" joinD (dC (.str [])) (dCons (dLc (dRng1 (dCons (dVar 2) dNil)) (bName 4) dYes lsE [4]) dNil)))) := rfl
  rw [hg]
  obtain ⟨p', cs, y, h1, h2, h3⟩ := looseL_ok hn.sz (m := sI k) (List.range k) [] p .un
  refine ⟨p', cs, ?_, by simpa using h2, h3⟩
  have hlc : lcK (bName 4) dYes lsE [4] (intsFrom 0 k) [pS p, sI n, sI k, sS (sg n), .un] = .ok (.vl 1 (.lst (sgs cs))) [pS p', sI n, sI k, sS (sg n), .un] := by
    unfold lcK
    rw [if_pos (by simp [intsFrom]; omega)]
    rw [show intsFrom 0 k = (List.range k).map fun (i : Nat) => D.int (0 + (i : Int)) from rfl, h1]
    rfl
  have hj := v_join cs (fun c => [c]) (by rw [sum1 _ (fun c => c), h2]; simp; omega)
  rw [flat1 _ (fun c => c), List.map_id'] at hj
  have hj : joinD (.str []) [.lst (sgs cs)] = some (0, .str cs) := hj
  repeat first | tb_rel | simp only [sg_ok hn, rng_ok (show k ≤ 1000000 by omega), Int.toNat_natCast, hlc, hj]
end Wf

set_option Elab.async false
set_option linter.all false
set_option maxRecDepth 100000
set_option maxHeartbeats 1000000
namespace Wf
open DN L2
local macro_rules | `(tactic| tb_rel) => `(tactic| simp only [e_seq, e_seqN, e_seqR, e_seqB, e_seqC, e_pass, e_brk, e_cnt, e_drop, e_dropK, e_ret, e_retK, e_retN, e_set, setK, e_asg, asgK, e_par, parK, R.bind_ok, R.bind_exc, R.bind_bad, e_var, e_varK0, e_varK1, e_varKi, e_c, e_un, unK, e_op, e_opK, opK2, e_nil, e_cons, e_consK, e_consK2, e_cb, cbK, e_bm, e_bmKs, bmK2, e_noPart, e_part, partK, e_sl, e_slK, e_slK1, slK2, e_test, testK, e_and, e_andT, e_andF, e_or, e_orT, e_orF, e_not, e_notK, e_if, e_ifT, e_ifF, e_ifS, e_andV, e_andVT, e_andVF, e_orV, e_orVT, e_orVF, e_notV, e_notVK, e_chain, e_chK, e_chM, e_chMb, e_opv, e_ch3T, e_ch3F, e_isi, isiK, e_tup, tupK, e_lst, lstK, e_call, e_callK, e_callL, e_callK2, e_appA, e_appAK, e_appAK2, e_callKw, e_kwK, e_kwL, e_kwK2, e_aug, e_augL, augK, e_app, e_appL, appK, e_setI, e_setIK, e_setIL, setIK2, e_augI, e_augIL, e_augIK, e_augIR, e_augI0, e_augI1, augI2, e_for, e_forK, e_it, itK, e_rng1, rng1K, e_rng2, rng2K, e_lc, e_yes, passN, pass1, fz1, fzs, backN, back1, rds, e_rd0, e_rd1, e_rda, e_rdS0, e_rdS1, e_rdS2, e_rdS3, Sl.o1, Sl.re, fins, fin1, argOk, bName, bNil, bCons, bTup, out_some, out_none, e_finN, e_finR, List.getElem?_cons_zero, List.getElem?_cons_succ, List.getElem?_nil, List.set_cons_zero, List.set_cons_succ, List.length_cons, List.length_nil, List.cons_append, List.nil_append, List.append_nil, List.replicate_succ, List.replicate_zero, Option.map_some, Option.map_none, Option.bind_some, pick_cons, pick_nil', List.map_cons, List.map_nil, List.any_cons, List.any_nil, isC, Bool.not_true, Bool.not_false, Bool.or_false, Bool.or_true, Bool.true_or, Bool.false_or, Nat.reduceAdd, Nat.reduceSub, Nat.reduceLT, Nat.reduceLeDiff, Nat.reduceEqDiff, reduceIte, and_self, if_true, ite_true, true_and, and_true, Nat.zero_add, List.length_map, Nat.lt_add_left_iff_pos, Nat.zero_lt_succ, v_add, v_sub, v_neg, v_iadd, v_lt, v_gt, v_le, v_ge, v_eqi, v_eqs, v_eqb, v_nei, v_nes, v_neb, v_isn, v_notn, v_int, v_abs, v_lenl, v_lenf, v_lent, v_tupl, v_tupt, v_listl, v_listf, v_listt, v_revl, v_sll, v_slt, v_in1, v_cnt, isnB, restE, wipeE, frzS])
open PyProof.Rows (lo1 up1)
def tiF : Ev → R Bool := (dOr (dTest (dOp eqD (dVar 4) (dC (.str [])))) (dTest (dOp neD (dVar 7) (dCall den_law_back [false] (dCons (dOp ixD (dVar 4) (dUn negD (dC (.int 1)))) dNil)))))
def tiB : Ev → R Out := (dSeq (dSet 6 (dLc (dIt (dVar 3)) (bName 7) tiF (dVar 7) [7]))
    (dSet 4 (dOp addD (dVar 4) (dOp ixD (dVar 6) (dCall den_law_take [true, false] (dCons (dVar 0) (dCons (dCB lenD (dCons (dVar 6) dNil)) dNil)))))))
def okN (st : List Nat) (c : Nat) : Bool := decide (st.getLast? ≠ some (sw1 c))
theorem asc_Ltrs {n : Nat} {w : List Nat} (hn : Sz n) (h : Ltrs n w) : asc w = true := h.asc hn.2
theorem some_left {n : Nat} (hn : Sz n) (st : List Nat) : 0 < ((sg n).filter (okN st)).length := by
  have h1 : 97 ∈ sg n := sg_mem.mpr (.inl ⟨Nat.le_refl _, by have := hn.1; omega⟩)
  have h2 : 65 ∈ sg n := sg_mem.mpr (.inr ⟨Nat.le_refl _, by have := hn.1; omega⟩)
  by_cases h : okN st 97 = true
  · exact List.length_pos_of_mem (List.mem_filter.mpr ⟨h1, h⟩)
  · refine List.length_pos_of_mem (a := 65) (List.mem_filter.mpr ⟨h2, ?_⟩)
    unfold okN at h ⊢
    simp only [decide_eq_true_eq, ne_eq, Decidable.not_not] at h
    rw [decide_eq_true_eq, h]
    decide
theorem tiB_ok {n : Nat} (hn : Sz n) {m k x6 : Sl} (p : Pot) {st : List Nat} (hs : Ltrs n st) (hl : st.length ≤ 100000) : ∃ (p' : Pot) (c : Nat) (y6 : Sl), tiB [pS p, sI n, m, sS (sg n), sS st, k, x6, .un] = .ok .nx [pS p', sI n, m, sS (sg n), sS (st ++ [c]), k, y6, .un] ∧ Ltr n c ∧ st.getLast? ≠ some (sw1 c) := by
  have hlc : lcK (bName 7) tiF (dVar 7) [7] ((sg n).map fun c => D.str [c]) [pS p, sI n, m, sS (sg n), sS st, k, x6, .un] = .ok (.vl 1 (.lst (((sg n).filter (okN st)).map fun c => D.str [c]))) (restE [pS p, sI n, m, sS (sg n), sS st, k, x6, .un] [7] [pS p, sI n, m, sS (sg n), sS st, k, x6, .un]) :=
    lc_fil (q := fun c => D.str [c]) (g := fun c => D.str [c]) (p := okN st) [pS p, sI n, m, sS (sg n), sS st, k, x6, .un] (sg n) (by rw [sg_len]; have := hn.2; omega) rfl fun c hc => by
      have h1 := sg_mem.mp hc
      have hft : tiF [pS p, sI n, m, sS (sg n), sS st, k, x6, sS [c]] = .ok (okN st c) [pS p, sI n, m, sS (sg n), sS st, k, x6, sS [c]] := by
        simp only [tiF]
        rcases snoc_cases st with rfl | ⟨t, l, rfl⟩
        · have e : (([] : List Nat) == []) = true := rfl
          have e2 : okN [] c = true := rfl
          repeat first | tb_rel | simp only [e, e2]
        · have e : ((t ++ [l]) == []) = false := by simp
          have hl1 : Ltr n l := hs l (by simp)
          have hx := v_ix_last (t := t) (l := l) (by omega)
          have e3 : (!([c] == [sw1 l])) = okN (t ++ [l]) c := by
            unfold okN
            rw [last_app, Bool.eq_iff_iff]
            simp
            constructor
            · intro h z; exact h (by rw [z, sw_sw])
            · intro h z; exact h (by rw [z, sw_sw])
          repeat first | tb_rel | simp only [e, hx, back_ok (hl1.lt hn.2), e3]
      refine ⟨[pS p, sI n, m, sS (sg n), sS st, k, x6, sS [c]], [pS p, sI n, m, sS (sg n), sS st, k, x6, sS [c]], rfl, hft, ?_⟩
      cases hb : okN st c with
      | true => exact .inl ⟨rfl, .vl 0 (.str [c]), _, _, rfl, rfl, rfl⟩
      | false => exact .inr ⟨rfl, rfl⟩
  have hpos := some_left hn st
  have hle : ((sg n).filter (okN st)).length ≤ 52 := Nat.le_trans (List.length_filter_le _ _) (by rw [sg_len]; have := hn.2; omega)
  obtain ⟨r, p1, h1, h2, h3⟩ := take_ok p (m := ((((sg n).filter (okN st)).length : Nat) : Int)) (by omega)
  obtain ⟨j, hj⟩ := Int.eq_ofNat_of_zero_le h2
  have hjl : j < ((sg n).filter (okN st)).length := by omega
  have hx : ((sg n).filter (okN st))[j]? = some ((sg n).filter (okN st))[j] := List.getElem?_eq_getElem hjl
  have hm := List.mem_filter.mp (List.getElem_mem hjl)
  have hix : ixD (.lst (((sg n).filter (okN st)).map fun c => D.str [c])) (.int r) = some (0, .str [((sg n).filter (okN st))[j]]) := by
    rw [hj]
    exact v_ixl (by rw [List.getElem?_map, hx]; rfl)
  have ha := v_adds (s := st) (z := [((sg n).filter (okN st))[j]]) (by simp only [List.length_cons, List.length_nil]; omega)
  refine ⟨p1, ((sg n).filter (okN st))[j], .vl 1 (.lst (((sg n).filter (okN st)).map fun c => D.str [c])), ?_, sg_mem.mp hm.1, by have := hm.2; unfold okN at this; exact of_decide_eq_true this⟩
  simp only [tiB]
  repeat first | tb_rel | simp only [hlc, h1, hix, ha]
theorem tiL_ok {n : Nat} (hn : Sz n) {m : Sl} : ∀ (l : List Nat) (p : Pot) (st : List Nat) (k x6 : Sl), Ltrs n st → Red st → st.length + l.length ≤ 100000 → ∃ (p' : Pot) (w : List Nat) (y5 y6 : Sl), dLoop (bName 5) tiB (l.map fun (i : Nat) => D.int (0 + (i : Int))) [pS p, sI n, m, sS (sg n), sS st, k, x6, .un] = .ok .nx [pS p', sI n, m, sS (sg n), sS w, y5, y6, .un] ∧ Ltrs n w ∧ Red w ∧ w.length = st.length + l.length
  | [], p, st, k, x6, h1, h2, _ => ⟨p, st, k, x6, rfl, h1, h2, rfl⟩
  | i :: l, p, st, k, x6, h1, h2, h3 => by
    rw [List.length_cons] at h3
    obtain ⟨p1, c, y6, e1, e2, e3⟩ := tiB_ok hn (m := m) (k := sI (0 + (i : Int))) (x6 := x6) p h1 (by omega)
    obtain ⟨p', w, z5, z6, e4, e5, e6, e7⟩ := tiL_ok hn (m := m) l p1 (st ++ [c]) (sI (0 + (i : Int))) y6 (h1.app fun x hx => by rw [List.mem_singleton.mp hx]; exact e2) ((red_app_iff st c).mpr ⟨h2, e3⟩) (by simp; omega)
    refine ⟨p', w, z5, z6, ?_, e5, e6, by rw [e7]; simp; omega⟩
    rw [List.map_cons, e_loop (ev1 := [pS p, sI n, m, sS (sg n), sS st, sI (0 + (i : Int)), x6, .un]) (by rfl), e1, e_loopN, e4]
theorem tight_ok {n : Nat} (hn : S3 n) {k : Nat} (hk : k ≤ 10000) (p : Pot) : ∃ (p' : Pot) (w : List Nat), den_law_tight [pS p, sI n, sI k] = .ok (0, .str w) [pS p', sI n, sI k] ∧ w.length = k ∧ Ltrs n w ∧ Red w := by
  rw [den_law_tight, e_den (by rfl) (by rfl)]
  have hg : g_law_tight = (dSeq (dAsg (bTup 2 (bCons (bName 3) (bCons (bName 4) bNil))) (dTupE (dCons (dCall den_law_signs [false] (dCons (dVar 1) dNil)) (dCons (dC (.str [])) dNil)))) (dSeq (dFor (dRng1 (dCons (dVar 2) dNil)) (bName 5) tiB) (dRet (dVar 4)))) := rfl
  rw [hg]
  obtain ⟨p', w, y5, y6, h1, h2, h3, h4⟩ := tiL_ok hn.sz (m := sI k) (List.range k) p [] .un .un (fun _ h => by cases h) trivial (by simp; omega)
  have h1 : dLoop (bName 5) tiB (intsFrom 0 k) [pS p, sI n, sI k, sS (sg n), sS [], .un, .un, .un] = .ok .nx [pS p', sI n, sI k, sS (sg n), sS w, y5, y6, .un] := h1
  refine ⟨p', w, ?_, by simpa using h4, h2, h3⟩
  have hle : (2 ≤ 10000) = True := by simp
  repeat first | tb_rel | simp only [sg_ok hn, rng_ok (show k ≤ 1000000 by omega), Int.toNat_natCast, h1, hle]
end Wf

set_option Elab.async false
set_option linter.all false
set_option maxRecDepth 100000
set_option maxHeartbeats 1000000
namespace Wf
open DN L2
local macro_rules | `(tactic| tb_rel) => `(tactic| simp only [e_seq, e_seqN, e_seqR, e_seqB, e_seqC, e_pass, e_brk, e_cnt, e_drop, e_dropK, e_ret, e_retK, e_retN, e_set, setK, e_asg, asgK, e_par, parK, R.bind_ok, R.bind_exc, R.bind_bad, e_var, e_varK0, e_varK1, e_varKi, e_c, e_un, unK, e_op, e_opK, opK2, e_nil, e_cons, e_consK, e_consK2, e_cb, cbK, e_bm, e_bmKs, bmK2, e_noPart, e_part, partK, e_sl, e_slK, e_slK1, slK2, e_test, testK, e_and, e_andT, e_andF, e_or, e_orT, e_orF, e_not, e_notK, e_if, e_ifT, e_ifF, e_ifS, e_andV, e_andVT, e_andVF, e_orV, e_orVT, e_orVF, e_notV, e_notVK, e_chain, e_chK, e_chM, e_chMb, e_opv, e_ch3T, e_ch3F, e_isi, isiK, e_tup, tupK, e_lst, lstK, e_call, e_callK, e_callL, e_callK2, e_appA, e_appAK, e_appAK2, e_callKw, e_kwK, e_kwL, e_kwK2, e_aug, e_augL, augK, e_app, e_appL, appK, e_setI, e_setIK, e_setIL, setIK2, e_augI, e_augIL, e_augIK, e_augIR, e_augI0, e_augI1, augI2, e_for, e_forK, e_it, itK, e_rng1, rng1K, e_rng2, rng2K, e_lc, e_yes, passN, pass1, fz1, fzs, backN, back1, rds, e_rd0, e_rd1, e_rda, e_rdS0, e_rdS1, e_rdS2, e_rdS3, Sl.o1, Sl.re, fins, fin1, argOk, bName, bNil, bCons, bTup, out_some, out_none, e_finN, e_finR, List.getElem?_cons_zero, List.getElem?_cons_succ, List.getElem?_nil, List.set_cons_zero, List.set_cons_succ, List.length_cons, List.length_nil, List.cons_append, List.nil_append, List.append_nil, List.replicate_succ, List.replicate_zero, Option.map_some, Option.map_none, Option.bind_some, pick_cons, pick_nil', List.map_cons, List.map_nil, List.any_cons, List.any_nil, isC, Bool.not_true, Bool.not_false, Bool.or_false, Bool.or_true, Bool.true_or, Bool.false_or, Nat.reduceAdd, Nat.reduceSub, Nat.reduceLT, Nat.reduceLeDiff, Nat.reduceEqDiff, reduceIte, and_self, if_true, ite_true, true_and, and_true, Nat.zero_add, List.length_map, Nat.lt_add_left_iff_pos, Nat.zero_lt_succ, v_add, v_sub, v_neg, v_iadd, v_lt, v_gt, v_le, v_ge, v_eqi, v_eqs, v_eqb, v_nei, v_nes, v_neb, v_isn, v_notn, v_int, v_abs, v_lenl, v_lenf, v_lent, v_tupl, v_tupt, v_listl, v_listf, v_listt, v_revl, v_sll, v_slt, v_in1, v_cnt, isnB, restE, wipeE, frzS])
open PyProof.Rows (lo1 up1)
theorem len1_ok {s : List Nat} (h : s.length ≤ 16777216) : lenD [.str s] = some (0, .int s.length) := v_lens h
def spB : Ev → R Out := (dSeq (dPar 6 7 (dCons (dCall den_law_take [true, false] (dCons (dVar 0) (dCons (dOp addD (dCB lenD (dCons (dVar 2) dNil)) (dC (.int 1))) dNil))) (dCons (dOp ixD (dVar 4) (dCall den_law_take [true, false] (dCons (dVar 0) (dCons (dOp mulD (dC (.int 2)) (dVar 1)) dNil)))) dNil)))
    (dSet 2 (dOp addD (dOp addD (dOp addD (dSl slD (dVar 2) dNoPart (dPart (dVar 6))) (dVar 7)) (dCall den_law_back [false] (dCons (dVar 7) dNil))) (dSl slD (dVar 2) (dPart (dVar 6)) dNoPart))))
theorem spB_ok {n : Nat} (hn : Sz n) {m k a b : Sl} (p : Pot) {w : List Nat} (hl : w.length ≤ 100000) : ∃ (p' : Pot) (j c : Nat), spB [pS p, sI n, sS w, m, sS (sg n), k, a, b] = .ok .nx [pS p', sI n, sS (w.take j ++ c :: sw1 c :: w.drop j), m, sS (sg n), k, sI j, sS [c]] ∧ j ≤ w.length ∧ Ltr n c := by
  obtain ⟨r, p1, h1, h2, h3⟩ := take_ok p (m := ((w.length : Nat) : Int) + 1) (by omega)
  obtain ⟨r2, p2, g1, g2, g3⟩ := take_ok p1 (m := 2 * (n : Int)) (by have := hn.1; have := hn.2; omega)
  obtain ⟨c, g4, g5⟩ := pick_sg hn ⟨g2, g3⟩
  obtain ⟨j, hj⟩ := Int.eq_ofNat_of_zero_le h2
  rw [hj] at h1 h3
  have hlen := v_lens (s := w) (by omega)
  have s1 := v_sls (s := w) (lo := none) (hi := some (j : Int)) (by omega)
  have s2 := v_sls (s := w) (lo := some (j : Int)) (hi := none) (by omega)
  rw [cut_to] at s1
  rw [cut_from] at s2
  have ht : (w.take j).length ≤ 100000 := by rw [List.length_take]; omega
  have hd : (w.drop j).length ≤ 100000 := by rw [List.length_drop]; omega
  have a1 := v_adds (s := w.take j) (z := [c]) (by simp only [List.length_cons, List.length_nil]; omega)
  have a2 := v_adds (s := w.take j ++ [c]) (z := [sw1 c]) (by simp only [List.length_append, List.length_cons, List.length_nil]; omega)
  have a3 := v_adds (s := w.take j ++ [c] ++ [sw1 c]) (z := w.drop j) (by simp only [List.length_append, List.length_cons, List.length_nil]; omega)
  refine ⟨p2, j, c, ?_, by omega, g5⟩
  simp only [spB]
  repeat first | tb_rel | simp only [hlen, h1, mul2, g1, g4, s1, s2, a1, a2, a3, back_ok (g5.lt hn.2)]
  simp
theorem spL_ok {n : Nat} (hn : Sz n) {m : Sl} : ∀ (l : List Nat) (p : Pot) (w : List Nat) (k a b : Sl), Ltrs n w → w.length + 2 * l.length ≤ 100000 → ∃ (p' : Pot) (v : List Nat) (y5 y6 y7 : Sl), dLoop (bName 5) spB (l.map fun (i : Nat) => D.int (0 + (i : Int))) [pS p, sI n, sS w, m, sS (sg n), k, a, b] = .ok .nx [pS p', sI n, sS v, m, sS (sg n), y5, y6, y7] ∧ Ltrs n v ∧ v.length = w.length + 2 * l.length ∧ red v = red w
  | [], p, w, k, a, b, h1, _ => ⟨p, w, k, a, b, rfl, h1, rfl, rfl⟩
  | i :: l, p, w, k, a, b, h1, h3 => by
    rw [List.length_cons] at h3
    obtain ⟨p1, j, c, e1, e2, e3⟩ := spB_ok hn (m := m) (k := sI (0 + (i : Int))) (a := a) (b := b) p (w := w) (by omega)
    have hL : Ltrs n (w.take j ++ c :: sw1 c :: w.drop j) := fun x hx => by
      rcases List.mem_append.mp hx with hx | hx
      · exact h1 x (List.mem_of_mem_take hx)
      · rcases List.mem_cons.mp hx with rfl | hx
        · exact e3
        · rcases List.mem_cons.mp hx with rfl | hx
          · exact e3.sw hn.2
          · exact h1 x (List.mem_of_mem_drop hx)
    have hlen : (w.take j ++ c :: sw1 c :: w.drop j).length = w.length + 2 := by
      rw [List.length_append, List.length_cons, List.length_cons, List.length_take, List.length_drop]; omega
    obtain ⟨p', v, z5, z6, z7, e4, e5, e6, e7⟩ := spL_ok hn (m := m) l p1 (w.take j ++ c :: sw1 c :: w.drop j) (sI (0 + (i : Int))) (sI j) (sS [c]) hL (by omega)
    refine ⟨p', v, z5, z6, z7, ?_, e5, by rw [e6, List.length_cons]; omega, ?_⟩
    · rw [List.map_cons, e_loop (ev1 := [pS p, sI n, sS w, m, sS (sg n), sI (0 + (i : Int)), a, b]) (by rfl), e1, e_loopN, e4]
    · rw [e7, red_pair, List.take_append_drop]
theorem spread_ok {n : Nat} (hn : S3 n) {k : Nat} (p : Pot) {w : List Nat} (hw : Ltrs n w) (hk : w.length + 2 * k ≤ 100000) : ∃ (p' : Pot) (v : List Nat), den_law_spread [pS p, sI n, sS w, sI k] = .ok (0, .str v) [pS p', sI n, sS w, sI k] ∧ Ltrs n v ∧ v.length = w.length + 2 * k ∧ red v = red w := by
  rw [den_law_spread, e_den (by rfl) (by rfl)]
  have hg : g_law_spread = (dSeq (dSet 4 (dCall den_law_signs [false] (dCons (dVar 1) dNil))) (dSeq (dFor (dRng1 (dCons (dVar 3) dNil)) (bName 5) spB) (dRet (dVar 2)))) := rfl
  rw [hg]
  obtain ⟨p', v, y5, y6, y7, h1, h2, h3, h4⟩ := spL_ok hn.sz (m := sI k) (List.range k) p w .un .un .un hw (by simpa using hk)
  have h1 : dLoop (bName 5) spB (intsFrom 0 k) [pS p, sI n, sS w, sI k, sS (sg n), .un, .un, .un] = .ok .nx [pS p', sI n, sS v, sI k, sS (sg n), y5, y6, y7] := h1
  refine ⟨p', v, ?_, h2, by simpa using h3, h4⟩
  repeat first | tb_rel | simp only [sg_ok hn, rng_ok (show k ≤ 1000000 by omega), Int.toNat_natCast, h1]
end Wf

set_option Elab.async false
set_option linter.all false
set_option maxRecDepth 100000
set_option maxHeartbeats 0
namespace LawHead
open PySem PySem.Spec PyProof.Rows L2
def top (i : Nat) : Stmt := PySem.Challenge.pw_wholefree_k46_whole_rows_of_commutators.main.body.getD i (.Pass ⟨0, 0, 0, 0⟩)
abbrev s_is_integer : Stmt := top 7
abbrev s_is_size : Stmt := top 8
abbrev s_check_size : Stmt := top 9
abbrev s_is_word_of : Stmt := top 10
abbrev s_check_word : Stmt := top 11
abbrev s_are_words_of : Stmt := top 12
abbrev s_check_words : Stmt := top 13
abbrev s_inverse_of : Stmt := top 15
abbrev s_reduced_of : Stmt := top 16
abbrev s_sums_of : Stmt := top 17
abbrev s_checked_word : Stmt := top 18
abbrev s_product : Stmt := top 19
abbrev s_sums : Stmt := top 20
abbrev s_commutator_of : Stmt := top 22
abbrev s_commutators_of : Stmt := top 23
abbrev s_commutator : Stmt := top 24
abbrev s_commutator_row : Stmt := top 25
abbrev s_law_take : Stmt := top 27
abbrev s_law_same : Stmt := top 28
abbrev s_law_back : Stmt := top 29
abbrev s_law_inv : Stmt := top 30
abbrev s_law_red : Stmt := top 31
abbrev s_law_signs : Stmt := top 32
abbrev s_law_key : Stmt := top 33
abbrev s_law_loose : Stmt := top 34
abbrev s_law_tight : Stmt := top 35
abbrev s_law_spread : Stmt := top 36
abbrev s_law_bracket : Stmt := top 37
abbrev s_law_right : Stmt := top 38
abbrev s_law_drawn : Stmt := top 39
abbrev s_law : Stmt := top 40
def d_is_integer : He.DefD := ⟨("is_integer", none), "is_integer", "is_integer", defArgs s_is_integer, defBody s_is_integer, defScope s_is_integer, [], []⟩
def d_is_size : He.DefD := ⟨("is_size", none), "is_size", "is_size", defArgs s_is_size, defBody s_is_size, defScope s_is_size, [], []⟩
def d_check_size : He.DefD := ⟨("check_size", none), "check_size", "check_size", defArgs s_check_size, defBody s_check_size, defScope s_check_size, [], []⟩
def d_is_word_of : He.DefD := ⟨("is_word_of", none), "is_word_of", "is_word_of", defArgs s_is_word_of, defBody s_is_word_of, defScope s_is_word_of, [], []⟩
def d_check_word : He.DefD := ⟨("check_word", none), "check_word", "check_word", defArgs s_check_word, defBody s_check_word, defScope s_check_word, [], []⟩
def d_are_words_of : He.DefD := ⟨("are_words_of", none), "are_words_of", "are_words_of", defArgs s_are_words_of, defBody s_are_words_of, defScope s_are_words_of, [], []⟩
def d_check_words : He.DefD := ⟨("check_words", none), "check_words", "check_words", defArgs s_check_words, defBody s_check_words, defScope s_check_words, [], []⟩
def d_inverse_of : He.DefD := ⟨("inverse_of", none), "inverse_of", "inverse_of", defArgs s_inverse_of, defBody s_inverse_of, defScope s_inverse_of, [], []⟩
def d_reduced_of : He.DefD := ⟨("reduced_of", none), "reduced_of", "reduced_of", defArgs s_reduced_of, defBody s_reduced_of, defScope s_reduced_of, [], []⟩
def d_sums_of : He.DefD := ⟨("sums_of", none), "sums_of", "sums_of", defArgs s_sums_of, defBody s_sums_of, defScope s_sums_of, [], []⟩
def d_checked_word : He.DefD := ⟨("checked_word", none), "checked_word", "checked_word", defArgs s_checked_word, defBody s_checked_word, defScope s_checked_word, [], []⟩
def d_product : He.DefD := ⟨("product", none), "product", "product", defArgs s_product, defBody s_product, defScope s_product, [], []⟩
def d_sums : He.DefD := ⟨("sums", none), "sums", "sums", defArgs s_sums, defBody s_sums, defScope s_sums, [], []⟩
def d_commutator_of : He.DefD := ⟨("commutator_of", none), "commutator_of", "commutator_of", defArgs s_commutator_of, defBody s_commutator_of, defScope s_commutator_of, [], []⟩
def d_commutators_of : He.DefD := ⟨("commutators_of", none), "commutators_of", "commutators_of", defArgs s_commutators_of, defBody s_commutators_of, defScope s_commutators_of, [], []⟩
def d_commutator : He.DefD := ⟨("commutator", none), "commutator", "commutator", defArgs s_commutator, defBody s_commutator, defScope s_commutator, [], []⟩
def d_commutator_row : He.DefD := ⟨("commutator_row", none), "commutator_row", "commutator_row", defArgs s_commutator_row, defBody s_commutator_row, defScope s_commutator_row, [], []⟩
def d_law_take : He.DefD := ⟨("_law_take", none), "_law_take", "_law_take", defArgs s_law_take, defBody s_law_take, defScope s_law_take, [], []⟩
def d_law_same : He.DefD := ⟨("_law_same", none), "_law_same", "_law_same", defArgs s_law_same, defBody s_law_same, defScope s_law_same, [], []⟩
def d_law_back : He.DefD := ⟨("_law_back", none), "_law_back", "_law_back", defArgs s_law_back, defBody s_law_back, defScope s_law_back, [], []⟩
def d_law_inv : He.DefD := ⟨("_law_inv", none), "_law_inv", "_law_inv", defArgs s_law_inv, defBody s_law_inv, defScope s_law_inv, [], []⟩
def d_law_red : He.DefD := ⟨("_law_red", none), "_law_red", "_law_red", defArgs s_law_red, defBody s_law_red, defScope s_law_red, [], []⟩
def d_law_signs : He.DefD := ⟨("_law_signs", none), "_law_signs", "_law_signs", defArgs s_law_signs, defBody s_law_signs, defScope s_law_signs, [], []⟩
def d_law_key : He.DefD := ⟨("_law_key", none), "_law_key", "_law_key", defArgs s_law_key, defBody s_law_key, defScope s_law_key, [], []⟩
def d_law_loose : He.DefD := ⟨("_law_loose", none), "_law_loose", "_law_loose", defArgs s_law_loose, defBody s_law_loose, defScope s_law_loose, [], []⟩
def d_law_tight : He.DefD := ⟨("_law_tight", none), "_law_tight", "_law_tight", defArgs s_law_tight, defBody s_law_tight, defScope s_law_tight, [], []⟩
def d_law_spread : He.DefD := ⟨("_law_spread", none), "_law_spread", "_law_spread", defArgs s_law_spread, defBody s_law_spread, defScope s_law_spread, [], []⟩
def d_law_bracket : He.DefD := ⟨("_law_bracket", none), "_law_bracket", "_law_bracket", defArgs s_law_bracket, defBody s_law_bracket, defScope s_law_bracket, [], []⟩
def d_law_right : He.DefD := ⟨("_law_right", none), "_law_right", "_law_right", defArgs s_law_right, defBody s_law_right, defScope s_law_right, [], []⟩
def d_law_drawn : He.DefD := ⟨("_law_drawn", none), "_law_drawn", "_law_drawn", defArgs s_law_drawn, defBody s_law_drawn, defScope s_law_drawn, [], []⟩
def d_law : He.DefD := ⟨("law", none), "law", "law", defArgs s_law, defBody s_law, defScope s_law, [], []⟩
def fn : List He.DefD := [d_is_integer, d_is_size, d_check_size, d_is_word_of, d_check_word, d_are_words_of, d_check_words, d_inverse_of, d_reduced_of, d_sums_of, d_checked_word, d_product, d_sums, d_commutator_of, d_commutators_of, d_commutator, d_commutator_row, d_law_take, d_law_same, d_law_back, d_law_inv, d_law_red, d_law_signs, d_law_key, d_law_loose, d_law_tight, d_law_spread, d_law_bracket, d_law_right, d_law_drawn, d_law]
def fa : List He.Fa := [.glo "FreeError", .glo "InvalidInteger", .glo "InvalidWord", .glo "InvalidWords", .str "ALPHABET" "abcdefghijklmnopqrstuvwxyz", .glo "is_integer", .glo "is_size", .glo "check_size", .glo "is_word_of", .glo "check_word", .glo "are_words_of", .glo "check_words", .glo "inverse_of", .glo "reduced_of", .glo "sums_of", .glo "checked_word", .glo "product", .glo "sums", .glo "commutator_of", .glo "commutators_of", .glo "commutator", .glo "commutator_row", .glo "_law_take", .glo "_law_same", .glo "_law_back", .glo "_law_inv", .glo "_law_red", .glo "_law_signs", .glo "_law_key", .glo "_law_loose", .glo "_law_tight", .glo "_law_spread", .glo "_law_bracket", .glo "_law_right", .glo "_law_drawn", .glo "law", .free "ValueError", .free "tuple", .free "any", .free "isinstance", .free "int", .free "range", .free "str", .free "all", .free "bool", .free "len", .free "list", .free "max"]
def lo0 : List Str := ["FreeError", "InvalidInteger", "InvalidWord", "InvalidWords", "ALPHABET", "is_integer", "is_size", "check_size", "is_word_of", "check_word", "are_words_of", "check_words", "inverse_of", "reduced_of", "sums_of", "checked_word", "product", "sums", "commutator_of", "commutators_of", "commutator", "commutator_row", "_law_take", "_law_same", "_law_back", "_law_inv", "_law_red", "_law_signs", "_law_key", "_law_loose"]
def lo1 : List Str := ["_law_tight", "_law_spread", "_law_bracket", "_law_right", "_law_drawn"]
def loose : List Str := lo0 ++ lo1
abbrev R : PySem.W.OpenRow := PySem.W.OpenLaw.row PySem.Challenge.rw_wholefree_k46_whole_rows_of_commutators
abbrev hk : PySem.W.Hook := He.hookD 4 fa fn
def ob (s : PySem.W.SharedT) : He.AlD := He.obsDG 4 fa fn (HandSHeadRun.getT s)
theorem ob_eq (s : PySem.W.SharedT) : ob s = hk.obs s.abs := He.obsDG_eq (HandSHeadRun.getT_eq s)
theorem run (w : World) : HandSHeadRun.RunEq R (PySem.W.view R.prog [40]) hk ob 6000 loose w := by
  intro os
  kernel_rfl
end LawHead

set_option Elab.async false
set_option linter.all false
set_option maxRecDepth 100000
set_option maxHeartbeats 4000000
namespace LawWalk
open PySem PySem.Spec PyProof.Rows L2 LawHead DN Wf
structure FEnv (K : PySem.W.Frag) (mg : Str → Option Value) : Prop where
  glo_is_integer : mg "is_integer" = some (.ref (He.ga K "is_integer"))
  fun_is_integer : ∃ fd, FunD K "is_integer" "is_integer" (defArgs s_is_integer) (defBody s_is_integer) (defScope s_is_integer) [] [] (He.ga K "is_integer") fd
  glo_is_size : mg "is_size" = some (.ref (He.ga K "is_size"))
  fun_is_size : ∃ fd, FunD K "is_size" "is_size" (defArgs s_is_size) (defBody s_is_size) (defScope s_is_size) [] [] (He.ga K "is_size") fd
  glo_check_size : mg "check_size" = some (.ref (He.ga K "check_size"))
  fun_check_size : ∃ fd, FunD K "check_size" "check_size" (defArgs s_check_size) (defBody s_check_size) (defScope s_check_size) [] [] (He.ga K "check_size") fd
  glo_is_word_of : mg "is_word_of" = some (.ref (He.ga K "is_word_of"))
  fun_is_word_of : ∃ fd, FunD K "is_word_of" "is_word_of" (defArgs s_is_word_of) (defBody s_is_word_of) (defScope s_is_word_of) [] [] (He.ga K "is_word_of") fd
  glo_are_words_of : mg "are_words_of" = some (.ref (He.ga K "are_words_of"))
  fun_are_words_of : ∃ fd, FunD K "are_words_of" "are_words_of" (defArgs s_are_words_of) (defBody s_are_words_of) (defScope s_are_words_of) [] [] (He.ga K "are_words_of") fd
  glo_check_words : mg "check_words" = some (.ref (He.ga K "check_words"))
  fun_check_words : ∃ fd, FunD K "check_words" "check_words" (defArgs s_check_words) (defBody s_check_words) (defScope s_check_words) [] [] (He.ga K "check_words") fd
  glo_reduced_of : mg "reduced_of" = some (.ref (He.ga K "reduced_of"))
  fun_reduced_of : ∃ fd, FunD K "reduced_of" "reduced_of" (defArgs s_reduced_of) (defBody s_reduced_of) (defScope s_reduced_of) [] [] (He.ga K "reduced_of") fd
  glo_product : mg "product" = some (.ref (He.ga K "product"))
  fun_product : ∃ fd, FunD K "product" "product" (defArgs s_product) (defBody s_product) (defScope s_product) [] [] (He.ga K "product") fd
  glo_law_signs : mg "_law_signs" = some (.ref (He.ga K "_law_signs"))
  fun_law_signs : ∃ fd, FunD K "_law_signs" "_law_signs" (defArgs s_law_signs) (defBody s_law_signs) (defScope s_law_signs) [] [] (He.ga K "_law_signs") fd
  glo_law_take : mg "_law_take" = some (.ref (He.ga K "_law_take"))
  fun_law_take : ∃ fd, FunD K "_law_take" "_law_take" (defArgs s_law_take) (defBody s_law_take) (defScope s_law_take) [] [] (He.ga K "_law_take") fd
  glo_law_back : mg "_law_back" = some (.ref (He.ga K "_law_back"))
  fun_law_back : ∃ fd, FunD K "_law_back" "_law_back" (defArgs s_law_back) (defBody s_law_back) (defScope s_law_back) [] [] (He.ga K "_law_back") fd
  glo_law_tight : mg "_law_tight" = some (.ref (He.ga K "_law_tight"))
  fun_law_tight : ∃ fd, FunD K "_law_tight" "_law_tight" (defArgs s_law_tight) (defBody s_law_tight) (defScope s_law_tight) [] [] (He.ga K "_law_tight") fd
  glo_law_loose : mg "_law_loose" = some (.ref (He.ga K "_law_loose"))
  fun_law_loose : ∃ fd, FunD K "_law_loose" "_law_loose" (defArgs s_law_loose) (defBody s_law_loose) (defScope s_law_loose) [] [] (He.ga K "_law_loose") fd
  glo_law_drawn : mg "_law_drawn" = some (.ref (He.ga K "_law_drawn"))
  fun_law_drawn : ∃ fd, FunD K "_law_drawn" "_law_drawn" (defArgs s_law_drawn) (defBody s_law_drawn) (defScope s_law_drawn) [] [] (He.ga K "_law_drawn") fd
  glo_check_word : mg "check_word" = some (.ref (He.ga K "check_word"))
  fun_check_word : ∃ fd, FunD K "check_word" "check_word" (defArgs s_check_word) (defBody s_check_word) (defScope s_check_word) [] [] (He.ga K "check_word") fd
  glo_checked_word : mg "checked_word" = some (.ref (He.ga K "checked_word"))
  fun_checked_word : ∃ fd, FunD K "checked_word" "checked_word" (defArgs s_checked_word) (defBody s_checked_word) (defScope s_checked_word) [] [] (He.ga K "checked_word") fd
  glo_inverse_of : mg "inverse_of" = some (.ref (He.ga K "inverse_of"))
  fun_inverse_of : ∃ fd, FunD K "inverse_of" "inverse_of" (defArgs s_inverse_of) (defBody s_inverse_of) (defScope s_inverse_of) [] [] (He.ga K "inverse_of") fd
  glo_commutators_of : mg "commutators_of" = some (.ref (He.ga K "commutators_of"))
  fun_commutators_of : ∃ fd, FunD K "commutators_of" "commutators_of" (defArgs s_commutators_of) (defBody s_commutators_of) (defScope s_commutators_of) [] [] (He.ga K "commutators_of") fd
  glo_sums_of : mg "sums_of" = some (.ref (He.ga K "sums_of"))
  fun_sums_of : ∃ fd, FunD K "sums_of" "sums_of" (defArgs s_sums_of) (defBody s_sums_of) (defScope s_sums_of) [] [] (He.ga K "sums_of") fd
  glo_commutator_row : mg "commutator_row" = some (.ref (He.ga K "commutator_row"))
  fun_commutator_row : ∃ fd, FunD K "commutator_row" "commutator_row" (defArgs s_commutator_row) (defBody s_commutator_row) (defScope s_commutator_row) [] [] (He.ga K "commutator_row") fd
  glo_law_inv : mg "_law_inv" = some (.ref (He.ga K "_law_inv"))
  fun_law_inv : ∃ fd, FunD K "_law_inv" "_law_inv" (defArgs s_law_inv) (defBody s_law_inv) (defScope s_law_inv) [] [] (He.ga K "_law_inv") fd
  glo_law_red : mg "_law_red" = some (.ref (He.ga K "_law_red"))
  fun_law_red : ∃ fd, FunD K "_law_red" "_law_red" (defArgs s_law_red) (defBody s_law_red) (defScope s_law_red) [] [] (He.ga K "_law_red") fd
  glo_law_bracket : mg "_law_bracket" = some (.ref (He.ga K "_law_bracket"))
  fun_law_bracket : ∃ fd, FunD K "_law_bracket" "_law_bracket" (defArgs s_law_bracket) (defBody s_law_bracket) (defScope s_law_bracket) [] [] (He.ga K "_law_bracket") fd
  glo_law_right : mg "_law_right" = some (.ref (He.ga K "_law_right"))
  fun_law_right : ∃ fd, FunD K "_law_right" "_law_right" (defArgs s_law_right) (defBody s_law_right) (defScope s_law_right) [] [] (He.ga K "_law_right") fd
  glo_law_same : mg "_law_same" = some (.ref (He.ga K "_law_same"))
  fun_law_same : ∃ fd, FunD K "_law_same" "_law_same" (defArgs s_law_same) (defBody s_law_same) (defScope s_law_same) [] [] (He.ga K "_law_same") fd
  glo_sums : mg "sums" = some (.ref (He.ga K "sums"))
  fun_sums : ∃ fd, FunD K "sums" "sums" (defArgs s_sums) (defBody s_sums) (defScope s_sums) [] [] (He.ga K "sums") fd
  glo_commutator_of : mg "commutator_of" = some (.ref (He.ga K "commutator_of"))
  fun_commutator_of : ∃ fd, FunD K "commutator_of" "commutator_of" (defArgs s_commutator_of) (defBody s_commutator_of) (defScope s_commutator_of) [] [] (He.ga K "commutator_of") fd
  glo_commutator : mg "commutator" = some (.ref (He.ga K "commutator"))
  fun_commutator : ∃ fd, FunD K "commutator" "commutator" (defArgs s_commutator) (defBody s_commutator) (defScope s_commutator) [] [] (He.ga K "commutator") fd
  glo_law : mg "law" = some (.ref (He.ga K "law"))
  fun_law : ∃ fd, FunD K "law" "law" (defArgs s_law) (defBody s_law) (defScope s_law) [] [] (He.ga K "law") fd
  fr_ValueError : mg "ValueError" = none
  fr_tuple : mg "tuple" = none
  fr_any : mg "any" = none
  fr_isinstance : mg "isinstance" = none
  fr_int : mg "int" = none
  fr_range : mg "range" = none
  fr_str : mg "str" = none
  fr_all : mg "all" = none
  fr_bool : mg "bool" = none
  fr_len : mg "len" = none
  fr_list : mg "list" = none
  fr_max : mg "max" = none
  str_ALPHABET : ∃ t, mg "ALPHABET" = some (.str "abcdefghijklmnopqrstuvwxyz" t)
section
variable {P : Program} {w : World} {K : PySem.W.Frag} {mg : Str → Option Value} {base : Heap}
theorem bk_commutator_row_0_word_size : BindK "commutator_row" s_commutator_row ["size", "word"] 0 ["word", "size"] [1, 0] := fun _ _ _ _ _ _ us ws h1 h2 => match us, ws, h1, h2 with | [], [_, _], _, _ => rfl
theorem sc_is_integer : FnScope ["value"] ["value"] (defScope s_is_integer) := ⟨rfl, rfl, rfl, by decide +kernel, rfl, by decide +kernel, by decide +kernel⟩
theorem bd_is_integer : BindP "is_integer" s_is_integer ["value"] := fun _ _ _ _ _ _ us hl => match us, hl with | [_], _ => rfl
theorem ok_is_integer (V : FEnv K mg) : DF P w K mg base "is_integer" s_is_integer 1 ["value"] den_is_integer := df_mk (P := []) (N := ["value"]) (g := g_is_integer) V.glo_is_integer V.fun_is_integer sc_is_integer fun cdv A outer s H E hr =>
  (pxb_one (pxs_ret (px_and (px_isi1 1 (by decide) rfl V.fr_isinstance rfl V.fr_int rfl (px_var 0)) (px_one (px_not (px_isi1 0 (by decide) rfl V.fr_isinstance rfl V.fr_bool rfl (px_var 0)))))))
theorem sc_is_size : FnScope ["value"] ["value"] (defScope s_is_size) := ⟨rfl, rfl, rfl, by decide +kernel, rfl, by decide +kernel, by decide +kernel⟩
theorem bd_is_size : BindP "is_size" s_is_size ["value"] := fun _ _ _ _ _ _ us hl => match us, hl with | [_], _ => rfl
theorem ok_is_size (V : FEnv K mg) : DF P w K mg base "is_size" s_is_size 2 ["value"] den_is_size := df_mk (P := []) (N := ["value"]) (g := g_is_size) V.glo_is_size V.fun_is_size sc_is_size fun cdv A outer s H E hr =>
  (pxb_one (pxs_ret (px_and (px_callF [false] (ok_is_integer V) hr (by decide) (by rfl) bd_is_integer (pxa_cons (px_var 0) pxa_nil)) (px_one (px_chain (o_le hr.units) (o_le hr.units) px_int (px_var 0) (px_callB o_len rfl V.fr_len rfl (pxa_cons (px_gstr (x := "ALPHABET") (z := "abcdefghijklmnopqrstuvwxyz") (s := u_ALPHABET) (by exact V.str_ALPHABET) (by rfl) (by rfl)) pxa_nil)))))))
theorem sc_check_size : FnScope ["size"] ["size"] (defScope s_check_size) := ⟨rfl, rfl, rfl, by decide +kernel, rfl, by decide +kernel, by decide +kernel⟩
theorem bd_check_size : BindP "check_size" s_check_size ["size"] := fun _ _ _ _ _ _ us hl => match us, hl with | [_], _ => rfl
theorem ok_check_size (V : FEnv K mg) : DF P w K mg base "check_size" s_check_size 3 ["size"] den_check_size := df_mk (P := []) (N := ["size"]) (g := g_check_size) V.glo_check_size V.fun_check_size sc_check_size fun cdv A outer s H E hr =>
  (pxb_one (pxs_if (pxt_not (pxt_val (px_callF [false] (ok_is_size V) hr (by decide) (by rfl) bd_is_size (pxa_cons (px_var 0) pxa_nil))))
    (pxb_one pxs_bad)
    pxb_nil))
theorem sc_is_word_of : FnScope ["size", "value", "sign"] ["size", "value"] (defScope s_is_word_of) := ⟨rfl, rfl, rfl, by decide +kernel, rfl, by decide +kernel, by decide +kernel⟩
theorem bd_is_word_of : BindP "is_word_of" s_is_word_of ["size", "value"] := fun _ _ _ _ _ _ us hl => match us, hl with | [_, _], _ => rfl
theorem ok_is_word_of (V : FEnv K mg) : DF P w K mg base "is_word_of" s_is_word_of 1 ["size", "value"] den_is_word_of := df_mk (P := []) (N := ["size", "value", "sign"]) (g := g_is_word_of) V.glo_is_word_of V.fun_is_word_of sc_is_word_of fun cdv A outer s H E hr =>
  (pxb_one (pxs_ret (px_and (px_isi1 2 (by decide) rfl V.fr_isinstance rfl V.fr_str rfl (px_var 1)) (px_one (px_callB (o_all rfl) rfl V.fr_all rfl (pxa_cons (px_lc (own := [("sign", 2)]) rfl sc_is_word_of.nd (by decide) (pxi_seq (px_var 1)) (blkOk_by (by kernel_rfl)) (fun _ _ _ _ _ => (pxg_name (i := 2) sc_is_word_of.nd rfl (by first | exact Or.inl rfl | exact Or.inr rfl))) (fun _ _ _ _ _ => pxts_nil) (fun _ _ _ _ _ => (px_cmp (o_in (units65 hr)) (px_bm0 PySem.F.plainAttrs_str PySem.F.slot_str_lower PySem.F.type_str_lower o_lower (px_var 2)) (px_sl o_sl (px_gstr (x := "ALPHABET") (z := "abcdefghijklmnopqrstuvwxyz") (s := u_ALPHABET) (by exact V.str_ALPHABET) (by rfl) (by rfl)) pxo_none (pxo_some (px_var 0)))))) pxa_nil))))))
theorem sc_are_words_of : FnScope ["size", "value", "word"] ["size", "value"] (defScope s_are_words_of) := ⟨rfl, rfl, rfl, by decide +kernel, rfl, by decide +kernel, by decide +kernel⟩
theorem bd_are_words_of : BindP "are_words_of" s_are_words_of ["size", "value"] := fun _ _ _ _ _ _ us hl => match us, hl with | [_, _], _ => rfl
theorem ok_are_words_of (V : FEnv K mg) : DF P w K mg base "are_words_of" s_are_words_of 2 ["size", "value"] den_are_words_of := df_mk (P := []) (N := ["size", "value", "word"]) (g := g_are_words_of) V.glo_are_words_of V.fun_are_words_of sc_are_words_of fun cdv A outer s H E hr =>
  (pxb_one (pxs_ret (px_and (px_isi1 3 (by decide) rfl V.fr_isinstance rfl V.fr_tuple rfl (px_var 1)) (px_one (px_callB (o_all rfl) rfl V.fr_all rfl (pxa_cons (px_lc (own := [("word", 2)]) rfl sc_are_words_of.nd (by decide) (pxi_seq (px_var 1)) (blkOk_by (by kernel_rfl)) (fun _ _ _ _ _ => (pxg_name (i := 2) sc_are_words_of.nd rfl (by first | exact Or.inl rfl | exact Or.inr rfl))) (fun _ _ _ _ _ => pxts_nil) (fun _ _ _ _ _ => (px_callF [false, false] (ok_is_word_of V) hr (by decide) (by rfl) bd_is_word_of (pxa_cons (px_var 0) (pxa_cons (px_var 2) pxa_nil))))) pxa_nil))))))
theorem sc_check_words : FnScope ["size", "words"] ["size", "words"] (defScope s_check_words) := ⟨rfl, rfl, rfl, by decide +kernel, rfl, by decide +kernel, by decide +kernel⟩
theorem bd_check_words : BindP "check_words" s_check_words ["size", "words"] := fun _ _ _ _ _ _ us hl => match us, hl with | [_, _], _ => rfl
theorem ok_check_words (V : FEnv K mg) : DF P w K mg base "check_words" s_check_words 3 ["size", "words"] den_check_words := df_mk (P := []) (N := ["size", "words"]) (g := g_check_words) V.glo_check_words V.fun_check_words sc_check_words fun cdv A outer s H E hr =>
  (pxb_one (pxs_if (pxt_not (pxt_val (px_callF [false, false] (ok_are_words_of V) hr (by decide) (by rfl) bd_are_words_of (pxa_cons (px_var 0) (pxa_cons (px_var 1) pxa_nil)))))
    (pxb_one pxs_bad)
    pxb_nil))
theorem sc_reduced_of : FnScope ["word", "found", "sign"] ["word"] (defScope s_reduced_of) := ⟨rfl, rfl, rfl, by decide +kernel, rfl, by decide +kernel, by decide +kernel⟩
theorem bd_reduced_of : BindP "reduced_of" s_reduced_of ["word"] := fun _ _ _ _ _ _ us hl => match us, hl with | [_], _ => rfl
theorem ok_reduced_of (V : FEnv K mg) : DF P w K mg base "reduced_of" s_reduced_of 1 ["word"] den_reduced_of := df_mk (P := []) (N := ["word", "found", "sign"]) (g := g_reduced_of) V.glo_reduced_of V.fun_reduced_of sc_reduced_of fun cdv A outer s H E hr =>
  (pxb_cons (pxs_set (i := 1) (by decide) sc_reduced_of.nd rfl (by first | exact Or.inl rfl | exact Or.inr rfl) (px_lst pxa_nil))
  (pxb_cons (pxs_for PassesOwn.never rfl (by decide) (pxi_seq (px_var 0)) (pxg_name (i := 2) sc_reduced_of.nd rfl (by first | exact Or.inl rfl | exact Or.inr rfl))
    (pxb_one (pxs_if (pxt_w (pxw_and (pxt_cmp (o_ne hr.units) (px_var 1) (px_lst pxa_nil)) (pxw_and1 (pxt_cmp (o_eq hr.units) (px_ix o_ix (px_var 1) (px_un o_neg px_int)) (px_bm0 PySem.F.plainAttrs_str PySem.F.slot_str_swapcase PySem.F.type_str_swapcase o_swapcase (px_var 2))))))
      (pxb_one (pxs_expr (px_pop (i := 1))))
      (pxb_one (pxs_app (i := 1) (px_var 2))))))
  (pxb_one (pxs_ret (px_bm PySem.F.plainAttrs_str PySem.F.slot_str_join PySem.F.type_str_join o_join (px_str rfl) (pxa_cons (px_var 1) pxa_nil))))))
theorem sc_product : FnScope ["size", "words"] ["size", "words"] (defScope s_product) := ⟨rfl, rfl, rfl, by decide +kernel, rfl, by decide +kernel, by decide +kernel⟩
theorem bd_product : BindP "product" s_product ["size", "words"] := fun _ _ _ _ _ _ us hl => match us, hl with | [_, _], _ => rfl
theorem ok_product (V : FEnv K mg) : DF P w K mg base "product" s_product 4 ["size", "words"] den_product := df_mk (P := []) (N := ["size", "words"]) (g := g_product) V.glo_product V.fun_product sc_product fun cdv A outer s H E hr =>
  (pxb_cons (pxs_expr (px_callF [false] (ok_check_size V) hr (by decide) (by rfl) bd_check_size (pxa_cons (px_var 0) pxa_nil)))
  (pxb_cons (pxs_expr (px_callF [false, false] (ok_check_words V) hr (by decide) (by rfl) bd_check_words (pxa_cons (px_var 0) (pxa_cons (px_var 1) pxa_nil))))
  (pxb_one (pxs_ret (px_callF [false] (ok_reduced_of V) hr (by decide) (by rfl) bd_reduced_of (pxa_cons (px_bm PySem.F.plainAttrs_str PySem.F.slot_str_join PySem.F.type_str_join o_join (px_str rfl) (pxa_cons (px_var 1) pxa_nil)) pxa_nil))))))
theorem sc_law_signs : FnScope ["size", "letter"] ["size"] (defScope s_law_signs) := ⟨rfl, rfl, rfl, by decide +kernel, rfl, by decide +kernel, by decide +kernel⟩
theorem bd_law_signs : BindP "_law_signs" s_law_signs ["size"] := fun _ _ _ _ _ _ us hl => match us, hl with | [_], _ => rfl
theorem ok_law_signs (V : FEnv K mg) : DF P w K mg base "_law_signs" s_law_signs 1 ["size"] den_law_signs := df_mk (P := []) (N := ["size", "letter"]) (g := g_law_signs) V.glo_law_signs V.fun_law_signs sc_law_signs fun cdv A outer s H E hr =>
  (pxb_one (pxs_ret (px_bm PySem.F.plainAttrs_str PySem.F.slot_str_join PySem.F.type_str_join o_join (px_str rfl) (pxa_cons (px_lc (own := [("letter", 1)]) rfl sc_law_signs.nd (by decide) (pxi_seq (px_sl o_sl (px_str rfl) pxo_none (pxo_some (px_var 0)))) (blkOk_by (by kernel_rfl)) (fun _ _ _ _ _ => (pxg_name (i := 1) sc_law_signs.nd rfl (by first | exact Or.inl rfl | exact Or.inr rfl))) (fun _ _ _ _ _ => pxts_nil) (fun _ _ _ _ _ => (px_op o_add (px_var 1) (px_bm0 PySem.F.plainAttrs_str PySem.F.slot_str_upper PySem.F.type_str_upper o_upper (px_var 1))))) pxa_nil))))
theorem sc_law_take : FnScope ["pot", "many", "cell", "stirred", "drawn_now"] ["pot", "many"] (defScope s_law_take) := ⟨rfl, rfl, rfl, by decide +kernel, rfl, by decide +kernel, by decide +kernel⟩
theorem bd_law_take : BindP "_law_take" s_law_take ["pot", "many"] := fun _ _ _ _ _ _ us hl => match us, hl with | [_, _], _ => rfl
theorem ok_law_take (V : FEnv K mg) : DF P w K mg base "_law_take" s_law_take 1 ["pot", "many"] den_law_take := df_mk (P := [0]) (N := ["pot", "many", "cell", "stirred", "drawn_now"]) (g := g_law_take) V.glo_law_take V.fun_law_take sc_law_take fun cdv A outer s H E hr =>
  (pxb_cons (pxs_if (pxt_w (pxw_and (pxt_cmp (o_eq hr.units) (px_ix o_ix (px_var 0) px_int) px_int) (pxw_and1 (pxt_cmp (o_lt hr.units) (px_ix o_ix (px_var 0) px_int) (px_callB o_len rfl V.fr_len rfl (pxa_cons (px_var 0) pxa_nil))))))
    (pxb_cons (pxs_set (i := 2) (by decide) sc_law_take.nd rfl (by first | exact Or.inl rfl | exact Or.inr rfl) (px_ix o_ix (px_var 0) (px_ix o_ix (px_var 0) px_int)))
    (pxb_cons (pxs_augI (i := 0) o_iadd px_int px_int)
    (pxb_one (pxs_if (pxt_cmp (o_ge hr.units) (px_var 2) (px_op o_pow px_int px_int))
      (pxb_one (pxs_setI (i := 0) rfl (by first | exact Or.inl rfl | exact Or.inr (Or.inl rfl)) px_int (px_op o_sub (px_var 2) (px_op o_pow px_int px_int))))
      (pxb_cons (pxs_set (i := 3) (by decide) sc_law_take.nd rfl (by first | exact Or.inl rfl | exact Or.inr rfl) (px_op o_mod (px_callTy o_int rfl V.fr_int rfl (pxa_cons (px_var 2) pxa_nil)) px_int))
      (pxb_cons (pxs_set (i := 3) (by decide) sc_law_take.nd rfl (by first | exact Or.inl rfl | exact Or.inr rfl) (px_op o_mod (px_callTy o_int rfl V.fr_int rfl (pxa_cons (px_op o_add (px_op o_add (px_op o_mul (px_var 3) (px_var 3)) (px_op o_mul px_int (px_var 3))) (px_op o_mul px_int (px_ix o_ix (px_var 0) px_int))) pxa_nil)) px_int))
      (pxb_one (pxs_setI (i := 0) rfl (by first | exact Or.inl rfl | exact Or.inr (Or.inl rfl)) px_int (px_op o_mod (px_callTy o_int rfl V.fr_int rfl (pxa_cons (px_op o_add (px_ix o_ix (px_var 0) px_int) (px_var 3)) pxa_nil)) px_int)))))))))
    pxb_nil)
  (pxb_cons (pxs_if (pxt_cmp (o_gt hr.units) (px_ix o_ix (px_var 0) px_int) px_int)
    (pxb_cons (pxs_set (i := 4) (by decide) sc_law_take.nd rfl (by first | exact Or.inl rfl | exact Or.inr rfl) (px_op o_mod (px_callTy o_int rfl V.fr_int rfl (pxa_cons (px_ix o_ix (px_var 0) px_int) pxa_nil)) (px_var 1)))
    (pxb_cons (pxs_setI (i := 0) rfl (by first | exact Or.inl rfl | exact Or.inr (Or.inl rfl)) px_int (px_op o_fdiv (px_ix o_ix (px_var 0) px_int) (px_var 1)))
    (pxb_one (pxs_ret (px_var 4)))))
    pxb_nil)
  (pxb_cons (pxs_setI (i := 0) rfl (by first | exact Or.inl rfl | exact Or.inr (Or.inl rfl)) px_int (px_op o_mod (px_callTy o_int rfl V.fr_int rfl (pxa_cons (px_op o_add (px_op o_add (px_op o_mul (px_ix o_ix (px_var 0) px_int) px_int) (px_op o_mul px_int (px_ix o_ix (px_var 0) px_int))) px_int) pxa_nil)) px_int))
  (pxb_cons (pxs_setI (i := 0) rfl (by first | exact Or.inl rfl | exact Or.inr (Or.inl rfl)) px_int (px_op o_mod (px_callTy o_int rfl V.fr_int rfl (pxa_cons (px_op o_add (px_op o_mul (px_ix o_ix (px_var 0) px_int) (px_ix o_ix (px_var 0) px_int)) px_int) pxa_nil)) px_int))
  (pxb_one (pxs_ret (px_op o_mod (px_callTy o_int rfl V.fr_int rfl (pxa_cons (px_op o_fdiv (px_ix o_ix (px_var 0) px_int) px_int) pxa_nil)) (px_var 1))))))))
theorem sc_law_back : FnScope ["sign"] ["sign"] (defScope s_law_back) := ⟨rfl, rfl, rfl, by decide +kernel, rfl, by decide +kernel, by decide +kernel⟩
theorem bd_law_back : BindP "_law_back" s_law_back ["sign"] := fun _ _ _ _ _ _ us hl => match us, hl with | [_], _ => rfl
theorem ok_law_back (V : FEnv K mg) : DF P w K mg base "_law_back" s_law_back 1 ["sign"] den_law_back := df_mk (P := []) (N := ["sign"]) (g := g_law_back) V.glo_law_back V.fun_law_back sc_law_back fun cdv A outer s H E hr =>
  (pxb_one (pxs_ret (px_if (pxt_cmp (o_eq hr.units) (px_var 0) (px_bm0 PySem.F.plainAttrs_str PySem.F.slot_str_lower PySem.F.type_str_lower o_lower (px_var 0))) (px_bm0 PySem.F.plainAttrs_str PySem.F.slot_str_upper PySem.F.type_str_upper o_upper (px_var 0)) (px_bm0 PySem.F.plainAttrs_str PySem.F.slot_str_lower PySem.F.type_str_lower o_lower (px_var 0)))))
theorem sc_law_tight : FnScope ["pot", "size", "many", "signs", "found", "k", "some", "sign"] ["pot", "size", "many"] (defScope s_law_tight) := ⟨rfl, rfl, rfl, by decide +kernel, rfl, by decide +kernel, by decide +kernel⟩
theorem bd_law_tight : BindP "_law_tight" s_law_tight ["pot", "size", "many"] := fun _ _ _ _ _ _ us hl => match us, hl with | [_, _, _], _ => rfl
theorem ok_law_tight (V : FEnv K mg) : DF P w K mg base "_law_tight" s_law_tight 2 ["pot", "size", "many"] den_law_tight := df_mk (P := [0]) (N := ["pot", "size", "many", "signs", "found", "k", "some", "sign"]) (g := g_law_tight) V.glo_law_tight V.fun_law_tight sc_law_tight fun cdv A outer s H E hr =>
  (pxb_cons (pxs_asg (by decide) (px_tup (pxa_cons (px_callF [false] (ok_law_signs V) hr (by decide) (by rfl) bd_law_signs (pxa_cons (px_var 1) pxa_nil)) (pxa_cons (px_str rfl) pxa_nil))) (pxg_tup rfl (pxgs_cons (pxg_name (i := 3) sc_law_tight.nd rfl (by first | exact Or.inl rfl | exact Or.inr rfl)) (pxgs_cons (pxg_name (i := 4) sc_law_tight.nd rfl (by first | exact Or.inl rfl | exact Or.inr rfl)) pxgs_nil))))
  (pxb_cons (pxs_for PassesOwn.never rfl (by decide) (pxi_rng1 rfl V.fr_range (pxa_cons (px_var 2) pxa_nil)) (pxg_name (i := 5) sc_law_tight.nd rfl (by first | exact Or.inl rfl | exact Or.inr rfl))
    (pxb_cons (pxs_setLc (own := [("sign", 7)]) (i := 6) (by decide) rfl sc_law_tight.nd rfl rfl (sw_true rfl rfl rfl rfl) (by decide) (pxi_seq (px_var 3)) (blkOk_by (by kernel_rfl)) (fun _ _ _ _ _ => (pxg_name (i := 7) sc_law_tight.nd rfl (by first | exact Or.inl rfl | exact Or.inr rfl))) (fun _ _ _ _ _ => (pxts_one (pxt_w (pxw_or (pxt_cmp (o_eq hr.units) (px_var 4) (px_str rfl)) (pxw_or1 (pxt_cmp (o_ne hr.units) (px_var 7) (px_callF [false] (ok_law_back V) hr (by decide) (by rfl) bd_law_back (pxa_cons (px_ix o_ix (px_var 4) (px_un o_neg px_int)) pxa_nil)))))))) (fun _ _ _ _ _ => (px_var 7)))
    (pxb_one (pxs_set (i := 4) (by decide) sc_law_tight.nd rfl (by first | exact Or.inl rfl | exact Or.inr rfl) (px_op o_add (px_var 4) (px_ix o_ix (px_var 6) (px_callF [true, false] (ok_law_take V) hr (by decide) (by rfl) bd_law_take (pxa_cons (px_var 0) (pxa_cons (px_callB o_len rfl V.fr_len rfl (pxa_cons (px_var 6) pxa_nil)) pxa_nil)))))))))
  (pxb_one (pxs_ret (px_var 4)))))
theorem sc_law_loose : FnScope ["pot", "size", "many", "signs", "k"] ["pot", "size", "many"] (defScope s_law_loose) := ⟨rfl, rfl, rfl, by decide +kernel, rfl, by decide +kernel, by decide +kernel⟩
theorem bd_law_loose : BindP "_law_loose" s_law_loose ["pot", "size", "many"] := fun _ _ _ _ _ _ us hl => match us, hl with | [_, _, _], _ => rfl
theorem ok_law_loose (V : FEnv K mg) : DF P w K mg base "_law_loose" s_law_loose 2 ["pot", "size", "many"] den_law_loose := df_mk (P := [0]) (N := ["pot", "size", "many", "signs", "k"]) (g := g_law_loose) V.glo_law_loose V.fun_law_loose sc_law_loose fun cdv A outer s H E hr =>
  (pxb_cons (pxs_set (i := 3) (by decide) sc_law_loose.nd rfl (by first | exact Or.inl rfl | exact Or.inr rfl) (px_callF [false] (ok_law_signs V) hr (by decide) (by rfl) bd_law_signs (pxa_cons (px_var 1) pxa_nil)))
  (pxb_one (pxs_ret (px_bm PySem.F.plainAttrs_str PySem.F.slot_str_join PySem.F.type_str_join o_join (px_str rfl) (pxa_cons (px_lc (own := [("k", 4)]) rfl sc_law_loose.nd (by decide) (pxi_rng1 rfl V.fr_range (pxa_cons (px_var 2) pxa_nil)) (blkOk_by (by kernel_rfl)) (fun _ _ _ _ _ => (pxg_name (i := 4) sc_law_loose.nd rfl (by first | exact Or.inl rfl | exact Or.inr rfl))) (fun _ _ _ _ _ => pxts_nil) (fun _ _ _ _ _ => (px_ix o_ix (px_var 3) (px_callF [true, false] (ok_law_take V) hr (by decide) (by rfl) bd_law_take (pxa_cons (px_var 0) (pxa_cons (px_op o_mul px_int (px_var 1)) pxa_nil)))))) pxa_nil)))))
theorem sc_law_drawn : FnScope ["pot", "size", "way", "some", "k", "letter", "left", "found", "at"] ["pot", "size"] (defScope s_law_drawn) := ⟨rfl, rfl, rfl, by decide +kernel, rfl, by decide +kernel, by decide +kernel⟩
theorem bd_law_drawn : BindP "_law_drawn" s_law_drawn ["pot", "size"] := fun _ _ _ _ _ _ us hl => match us, hl with | [_, _], _ => rfl
def g_law_drawn : Ev → R Out :=
  (dSeq (dSet 2 (dCall den_law_take [true, false] (dCons (dVar 0) (dCons (dC (.int 4)) dNil))))
  (dSeq (dIfS (dTest (dOp eqD (dVar 2) (dC (.int 0))))
    (dRet (dCall den_law_loose [true, false, false] (dCons (dVar 0) (dCons (dVar 1) (dCons (dCall den_law_take [true, false] (dCons (dVar 0) (dCons (dC (.int 25)) dNil))) dNil)))))
    dPass)
  (dSeq (dSet 3 (dLstE dNil))
  (dSeq (dFor (dRng1 (dCons (dCall den_law_take [true, false] (dCons (dVar 0) (dCons (dC (.int 13)) dNil))) dNil)) (bName 4)
    (dSeq (dSet 5 (dOp ixD (dC (.str [97, 98, 99])) (dCall den_law_take [true, false] (dCons (dVar 0) (dCons (dVar 1) dNil)))))
    (dSet 3 (dOp addD (dVar 3) (dLstE (dCons (dVar 5) (dCons (dBM "str" uppD (dVar 5) dNil) dNil)))))))
  (dSeq (dPar2 6 7 (dCons (dCB listD (dCons (dVar 3) dNil)) (dCons (dC (.str [])) dNil)))
  (dSeq (dFor (dRng1 (dCons (dCB lenD (dCons (dVar 3) dNil)) dNil)) (bName 4)
    (dSet 7 (dOp addD (dVar 7) (dPopI 6 (dCall den_law_take [true, false] (dCons (dVar 0) (dCons (dCB lenD (dCons (dVar 6) dNil)) dNil)))))))
  (dSeq (dIfS (dAnd (dTest (dOp eqD (dVar 2) (dC (.int 1)))) (dTest (dOp gtD (dCB lenD (dCons (dVar 7) dNil)) (dC (.int 0)))))
    (dSeq (dSet 8 (dCall den_law_take [true, false] (dCons (dVar 0) (dCons (dCB lenD (dCons (dVar 7) dNil)) dNil))))
    (dSet 7 (dOp addD (dOp addD (dSl slD (dVar 7) dNoPart (dPart (dVar 8))) (dOp ixD (dCall den_law_signs [false] (dCons (dVar 1) dNil)) (dCall den_law_take [true, false] (dCons (dVar 0) (dCons (dOp mulD (dC (.int 2)) (dVar 1)) dNil))))) (dSl slD (dVar 7) (dPart (dOp addD (dVar 8) (dC (.int 1)))) dNoPart))))
    dPass)
  (dRet (dVar 7)))))))))
def den_law_drawn : FN := denOf [0] 2 9 g_law_drawn
theorem ok_law_drawn (V : FEnv K mg) : DF P w K mg base "_law_drawn" s_law_drawn 3 ["pot", "size"] den_law_drawn := df_mk (P := [0]) (N := ["pot", "size", "way", "some", "k", "letter", "left", "found", "at"]) (g := g_law_drawn) V.glo_law_drawn V.fun_law_drawn sc_law_drawn fun cdv A outer s H E hr =>
  (pxb_cons (pxs_set (i := 2) (by decide) sc_law_drawn.nd rfl (by first | exact Or.inl rfl | exact Or.inr rfl) (px_callF [true, false] (ok_law_take V) hr (by decide) (by rfl) bd_law_take (pxa_cons (px_var 0) (pxa_cons px_int pxa_nil))))
  (pxb_cons (pxs_if (pxt_cmp (o_eq hr.units) (px_var 2) px_int)
    (pxb_one (pxs_ret (px_callF [true, false, false] (ok_law_loose V) hr (by decide) (by rfl) bd_law_loose (pxa_cons (px_var 0) (pxa_cons (px_var 1) (pxa_cons (px_callF [true, false] (ok_law_take V) hr (by decide) (by rfl) bd_law_take (pxa_cons (px_var 0) (pxa_cons px_int pxa_nil))) pxa_nil))))))
    pxb_nil)
  (pxb_cons (pxs_set (i := 3) (by decide) sc_law_drawn.nd rfl (by first | exact Or.inl rfl | exact Or.inr rfl) (px_lst pxa_nil))
  (pxb_cons (pxs_for PassesOwn.never rfl (by decide) (pxi_rng1 rfl V.fr_range (pxa_cons (px_callF [true, false] (ok_law_take V) hr (by decide) (by rfl) bd_law_take (pxa_cons (px_var 0) (pxa_cons px_int pxa_nil))) pxa_nil)) (pxg_name (i := 4) sc_law_drawn.nd rfl (by first | exact Or.inl rfl | exact Or.inr rfl))
    (pxb_cons (pxs_set (i := 5) (by decide) sc_law_drawn.nd rfl (by first | exact Or.inl rfl | exact Or.inr rfl) (px_ix o_ix (px_str rfl) (px_callF [true, false] (ok_law_take V) hr (by decide) (by rfl) bd_law_take (pxa_cons (px_var 0) (pxa_cons (px_var 1) pxa_nil)))))
    (pxb_one (pxs_set (i := 3) (by decide) sc_law_drawn.nd rfl (by first | exact Or.inl rfl | exact Or.inr rfl) (px_op o_add (px_var 3) (px_lst (pxa_cons (px_var 5) (pxa_cons (px_bm0 PySem.F.plainAttrs_str PySem.F.slot_str_upper PySem.F.type_str_upper o_upper (px_var 5)) pxa_nil))))))))
  (pxb_cons (pxs_par2 (i := 6) (j := 7) (by decide) (by decide) rfl sc_law_drawn.nd rfl rfl (by decide) rfl rfl (pxa_cons (px_callTy (o_list rfl) rfl V.fr_list rfl (pxa_cons (px_var 3) pxa_nil)) (pxa_cons (px_str rfl) pxa_nil)))
  (pxb_cons (pxs_for PassesOwn.never rfl (by decide) (pxi_rng1 rfl V.fr_range (pxa_cons (px_callB o_len rfl V.fr_len rfl (pxa_cons (px_var 3) pxa_nil)) pxa_nil)) (pxg_name (i := 4) sc_law_drawn.nd rfl (by first | exact Or.inl rfl | exact Or.inr rfl))
    (pxb_one (pxs_set (i := 7) (by decide) sc_law_drawn.nd rfl (by first | exact Or.inl rfl | exact Or.inr rfl) (px_op o_add (px_var 7) (px_popI (i := 6) (px_callF [true, false] (ok_law_take V) hr (by decide) (by rfl) bd_law_take (pxa_cons (px_var 0) (pxa_cons (px_callB o_len rfl V.fr_len rfl (pxa_cons (px_var 6) pxa_nil)) pxa_nil))))))))
  (pxb_cons (pxs_if (pxt_w (pxw_and (pxt_cmp (o_eq hr.units) (px_var 2) px_int) (pxw_and1 (pxt_cmp (o_gt hr.units) (px_callB o_len rfl V.fr_len rfl (pxa_cons (px_var 7) pxa_nil)) px_int))))
    (pxb_cons (pxs_set (i := 8) (by decide) sc_law_drawn.nd rfl (by first | exact Or.inl rfl | exact Or.inr rfl) (px_callF [true, false] (ok_law_take V) hr (by decide) (by rfl) bd_law_take (pxa_cons (px_var 0) (pxa_cons (px_callB o_len rfl V.fr_len rfl (pxa_cons (px_var 7) pxa_nil)) pxa_nil))))
    (pxb_one (pxs_set (i := 7) (by decide) sc_law_drawn.nd rfl (by first | exact Or.inl rfl | exact Or.inr rfl) (px_op o_add (px_op o_add (px_sl o_sl (px_var 7) pxo_none (pxo_some (px_var 8))) (px_ix o_ix (px_callF [false] (ok_law_signs V) hr (by decide) (by rfl) bd_law_signs (pxa_cons (px_var 1) pxa_nil)) (px_callF [true, false] (ok_law_take V) hr (by decide) (by rfl) bd_law_take (pxa_cons (px_var 0) (pxa_cons (px_op o_mul px_int (px_var 1)) pxa_nil))))) (px_sl o_sl (px_var 7) (pxo_some (px_op o_add (px_var 8) px_int)) pxo_none)))))
    pxb_nil)
  (pxb_one (pxs_ret (px_var 7))))))))))
theorem sc_check_word : FnScope ["size", "word"] ["size", "word"] (defScope s_check_word) := ⟨rfl, rfl, rfl, by decide +kernel, rfl, by decide +kernel, by decide +kernel⟩
theorem bd_check_word : BindP "check_word" s_check_word ["size", "word"] := fun _ _ _ _ _ _ us hl => match us, hl with | [_, _], _ => rfl
theorem ok_check_word (V : FEnv K mg) : DF P w K mg base "check_word" s_check_word 2 ["size", "word"] den_check_word := df_mk (P := []) (N := ["size", "word"]) (g := g_check_word) V.glo_check_word V.fun_check_word sc_check_word fun cdv A outer s H E hr =>
  (pxb_one (pxs_if (pxt_not (pxt_val (px_callF [false, false] (ok_is_word_of V) hr (by decide) (by rfl) bd_is_word_of (pxa_cons (px_var 0) (pxa_cons (px_var 1) pxa_nil)))))
    (pxb_one pxs_bad)
    pxb_nil))
theorem sc_checked_word : FnScope ["size", "word"] ["size", "word"] (defScope s_checked_word) := ⟨rfl, rfl, rfl, by decide +kernel, rfl, by decide +kernel, by decide +kernel⟩
theorem bd_checked_word : BindP "checked_word" s_checked_word ["size", "word"] := fun _ _ _ _ _ _ us hl => match us, hl with | [_, _], _ => rfl
theorem ok_checked_word (V : FEnv K mg) : DF P w K mg base "checked_word" s_checked_word 4 ["size", "word"] den_checked_word := df_mk (P := []) (N := ["size", "word"]) (g := g_checked_word) V.glo_checked_word V.fun_checked_word sc_checked_word fun cdv A outer s H E hr =>
  (pxb_cons (pxs_expr (px_callF [false] (ok_check_size V) hr (by decide) (by rfl) bd_check_size (pxa_cons (px_var 0) pxa_nil)))
  (pxb_cons (pxs_expr (px_callF [false, false] (ok_check_word V) hr (by decide) (by rfl) bd_check_word (pxa_cons (px_var 0) (pxa_cons (px_var 1) pxa_nil))))
  (pxb_one (pxs_ret (px_callF [false] (ok_reduced_of V) hr (by decide) (by rfl) bd_reduced_of (pxa_cons (px_var 1) pxa_nil))))))
theorem sc_inverse_of : FnScope ["word"] ["word"] (defScope s_inverse_of) := ⟨rfl, rfl, rfl, by decide +kernel, rfl, by decide +kernel, by decide +kernel⟩
theorem bd_inverse_of : BindP "inverse_of" s_inverse_of ["word"] := fun _ _ _ _ _ _ us hl => match us, hl with | [_], _ => rfl
theorem ok_inverse_of (V : FEnv K mg) : DF P w K mg base "inverse_of" s_inverse_of 1 ["word"] den_inverse_of := df_mk (P := []) (N := ["word"]) (g := g_inverse_of) V.glo_inverse_of V.fun_inverse_of sc_inverse_of fun cdv A outer s H E hr =>
  (pxb_one (pxs_ret (px_bm0 PySem.F.plainAttrs_str PySem.F.slot_str_swapcase PySem.F.type_str_swapcase o_swapcase (px_rev (px_var 0)))))
theorem sc_commutators_of : FnScope ["word", "found", "at"] ["word"] (defScope s_commutators_of) := ⟨rfl, rfl, rfl, by decide +kernel, rfl, by decide +kernel, by decide +kernel⟩
theorem bd_commutators_of : BindP "commutators_of" s_commutators_of ["word"] := fun _ _ _ _ _ _ us hl => match us, hl with | [_], _ => rfl
def g_commutators_of : Ev → R Out :=
  (dSeq (dSet 1 (dLstE dNil))
  (dSeq (dWh (dTest (dOp neD (dVar 0) (dC (.str []))))
    (dSeq (dSet 2 (dBM "str" indexD (dVar 0) (dCons (dBM "str" swcD (dOp ixD (dVar 0) (dC (.int 0))) dNil) dNil)))
    (dSeq (dApp 1 (dTupE (dCons (dBM "str" swcD (dOp ixD (dVar 0) (dC (.int 0))) dNil) (dCons (dCall den_inverse_of [false] (dCons (dSl slD (dVar 0) (dPart (dC (.int 1))) (dPart (dVar 2))) dNil)) dNil))))
    (dSet 0 (dCall den_reduced_of [false] (dCons (dOp addD (dSl slD (dVar 0) (dPart (dC (.int 1))) (dPart (dVar 2))) (dSl slD (dVar 0) (dPart (dOp addD (dVar 2) (dC (.int 1)))) dNoPart)) dNil))))) 1000)
  (dRet (dVar 1))))
def den_commutators_of : FN := denOf [] 1 3 g_commutators_of
theorem ok_commutators_of (V : FEnv K mg) : DF P w K mg base "commutators_of" s_commutators_of 2 ["word"] den_commutators_of := df_mk (P := []) (N := ["word", "found", "at"]) (g := g_commutators_of) V.glo_commutators_of V.fun_commutators_of sc_commutators_of fun cdv A outer s H E hr =>
  (pxb_cons (pxs_set (i := 1) (by decide) sc_commutators_of.nd rfl (by first | exact Or.inl rfl | exact Or.inr rfl) (px_lst pxa_nil))
  (pxb_cons (pxs_while 1000 PassesOwn.never (pxt_cmp (o_ne hr.units) (px_var 0) (px_str rfl))
    (pxb_cons (pxs_set (i := 2) (by decide) sc_commutators_of.nd rfl (by first | exact Or.inl rfl | exact Or.inr rfl) (px_bm PySem.F.plainAttrs_str PySem.F.slot_str_index PySem.F.type_str_index o_index (px_var 0) (pxa_cons (px_bm0 PySem.F.plainAttrs_str PySem.F.slot_str_swapcase PySem.F.type_str_swapcase o_swapcase (px_ix o_ix (px_var 0) px_int)) pxa_nil)))
    (pxb_cons (pxs_app (i := 1) (px_tup (pxa_cons (px_bm0 PySem.F.plainAttrs_str PySem.F.slot_str_swapcase PySem.F.type_str_swapcase o_swapcase (px_ix o_ix (px_var 0) px_int)) (pxa_cons (px_callF [false] (ok_inverse_of V) hr (by decide) (by rfl) bd_inverse_of (pxa_cons (px_sl o_sl (px_var 0) (pxo_some px_int) (pxo_some (px_var 2))) pxa_nil)) pxa_nil))))
    (pxb_one (pxs_set (i := 0) (by decide) sc_commutators_of.nd rfl (by first | exact Or.inl rfl | exact Or.inr rfl) (px_callF [false] (ok_reduced_of V) hr (by decide) (by rfl) bd_reduced_of (pxa_cons (px_op o_add (px_sl o_sl (px_var 0) (pxo_some px_int) (pxo_some (px_var 2))) (px_sl o_sl (px_var 0) (pxo_some (px_op o_add (px_var 2) px_int)) pxo_none)) pxa_nil)))))))
  (pxb_one (pxs_ret (px_var 1)))))
theorem sc_sums_of : FnScope ["size", "word", "letter"] ["size", "word"] (defScope s_sums_of) := ⟨rfl, rfl, rfl, by decide +kernel, rfl, by decide +kernel, by decide +kernel⟩
theorem bd_sums_of : BindP "sums_of" s_sums_of ["size", "word"] := fun _ _ _ _ _ _ us hl => match us, hl with | [_, _], _ => rfl
theorem ok_sums_of (V : FEnv K mg) : DF P w K mg base "sums_of" s_sums_of 1 ["size", "word"] den_sums_of := df_mk (P := []) (N := ["size", "word", "letter"]) (g := g_sums_of) V.glo_sums_of V.fun_sums_of sc_sums_of fun cdv A outer s H E hr =>
  (pxb_one (pxs_ret (px_callTy (o_tup rfl) rfl V.fr_tuple rfl (pxa_cons (px_lc (own := [("letter", 2)]) rfl sc_sums_of.nd (by decide) (pxi_seq (px_sl o_sl (px_gstr (x := "ALPHABET") (z := "abcdefghijklmnopqrstuvwxyz") (s := u_ALPHABET) (by exact V.str_ALPHABET) (by rfl) (by rfl)) pxo_none (pxo_some (px_var 0)))) (blkOk_by (by kernel_rfl)) (fun _ _ _ _ _ => (pxg_name (i := 2) sc_sums_of.nd rfl (by first | exact Or.inl rfl | exact Or.inr rfl))) (fun _ _ _ _ _ => pxts_nil) (fun _ _ _ _ _ => (px_op o_sub (px_bm PySem.F.plainAttrs_str PySem.F.slot_str_count PySem.F.type_str_count o_count (px_var 1) (pxa_cons (px_var 2) pxa_nil)) (px_bm PySem.F.plainAttrs_str PySem.F.slot_str_count PySem.F.type_str_count o_count (px_var 1) (pxa_cons (px_bm0 PySem.F.plainAttrs_str PySem.F.slot_str_upper PySem.F.type_str_upper o_upper (px_var 2)) pxa_nil))))) pxa_nil))))
theorem sc_commutator_row : FnScope ["size", "word", "own", "entry"] ["size", "word"] (defScope s_commutator_row) := ⟨rfl, rfl, rfl, by decide +kernel, rfl, by decide +kernel, by decide +kernel⟩
theorem bd_commutator_row : BindP "commutator_row" s_commutator_row ["size", "word"] := fun _ _ _ _ _ _ us hl => match us, hl with | [_, _], _ => rfl
def g_commutator_row : Ev → R Out :=
  (dSeq (dSet 2 (dCall den_checked_word [false, false] (dCons (dVar 0) (dCons (dVar 1) dNil))))
  (dSeq (dIfS (dTest (dCB anyD (dCons (dLc (dIt (dCall den_sums_of [false, false] (dCons (dVar 0) (dCons (dVar 2) dNil)))) (bName 3) dYes (dOp neD (dVar 3) (dC (.int 0))) [3]) dNil)))
    (dRet (dC .non))
    dPass)
  (dRet (dCB tupD (dCons (dCall den_commutators_of [false] (dCons (dVar 2) dNil)) dNil)))))
def den_commutator_row : FN := denOf [] 2 4 g_commutator_row
theorem ok_commutator_row (V : FEnv K mg) : DF P w K mg base "commutator_row" s_commutator_row 5 ["size", "word"] den_commutator_row := df_mk (P := []) (N := ["size", "word", "own", "entry"]) (g := g_commutator_row) V.glo_commutator_row V.fun_commutator_row sc_commutator_row fun cdv A outer s H E hr =>
  (pxb_cons (pxs_set (i := 2) (by decide) sc_commutator_row.nd rfl (by first | exact Or.inl rfl | exact Or.inr rfl) (px_callF [false, false] (ok_checked_word V) hr (by decide) (by rfl) bd_checked_word (pxa_cons (px_var 0) (pxa_cons (px_var 1) pxa_nil))))
  (pxb_cons (pxs_if (pxt_val (px_callB (o_any rfl) rfl V.fr_any rfl (pxa_cons (px_lc (own := [("entry", 3)]) rfl sc_commutator_row.nd (by decide) (pxi_seq (px_callF [false, false] (ok_sums_of V) hr (by decide) (by rfl) bd_sums_of (pxa_cons (px_var 0) (pxa_cons (px_var 2) pxa_nil)))) (blkOk_by (by kernel_rfl)) (fun _ _ _ _ _ => (pxg_name (i := 3) sc_commutator_row.nd rfl (by first | exact Or.inl rfl | exact Or.inr rfl))) (fun _ _ _ _ _ => pxts_nil) (fun _ _ _ _ _ => (px_cmp (o_ne hr.units) (px_var 3) px_int))) pxa_nil)))
    (pxb_one (pxs_ret px_non))
    pxb_nil)
  (pxb_one (pxs_ret (px_callTy (o_tup rfl) rfl V.fr_tuple rfl (pxa_cons (px_callF [false] (ok_commutators_of V) hr (by decide) (by rfl) bd_commutators_of (pxa_cons (px_var 2) pxa_nil)) pxa_nil))))))
theorem sc_law_inv : FnScope ["word", "sign"] ["word"] (defScope s_law_inv) := ⟨rfl, rfl, rfl, by decide +kernel, rfl, by decide +kernel, by decide +kernel⟩
theorem bd_law_inv : BindP "_law_inv" s_law_inv ["word"] := fun _ _ _ _ _ _ us hl => match us, hl with | [_], _ => rfl
theorem ok_law_inv (V : FEnv K mg) : DF P w K mg base "_law_inv" s_law_inv 2 ["word"] den_law_inv := df_mk (P := []) (N := ["word", "sign"]) (g := g_law_inv) V.glo_law_inv V.fun_law_inv sc_law_inv fun cdv A outer s H E hr =>
  (pxb_one (pxs_ret (px_bm PySem.F.plainAttrs_str PySem.F.slot_str_join PySem.F.type_str_join o_join (px_str rfl) (pxa_cons (px_lc (own := [("sign", 1)]) rfl sc_law_inv.nd (by decide) (pxi_seq (px_rev (px_var 0))) (blkOk_by (by kernel_rfl)) (fun _ _ _ _ _ => (pxg_name (i := 1) sc_law_inv.nd rfl (by first | exact Or.inl rfl | exact Or.inr rfl))) (fun _ _ _ _ _ => pxts_nil) (fun _ _ _ _ _ => (px_callF [false] (ok_law_back V) hr (by decide) (by rfl) bd_law_back (pxa_cons (px_var 1) pxa_nil)))) pxa_nil))))
theorem sc_law_red : FnScope ["word", "found", "sign"] ["word"] (defScope s_law_red) := ⟨rfl, rfl, rfl, by decide +kernel, rfl, by decide +kernel, by decide +kernel⟩
theorem bd_law_red : BindP "_law_red" s_law_red ["word"] := fun _ _ _ _ _ _ us hl => match us, hl with | [_], _ => rfl
theorem ok_law_red (V : FEnv K mg) : DF P w K mg base "_law_red" s_law_red 2 ["word"] den_law_red := df_mk (P := []) (N := ["word", "found", "sign"]) (g := g_law_red) V.glo_law_red V.fun_law_red sc_law_red fun cdv A outer s H E hr =>
  (pxb_cons (pxs_set (i := 1) (by decide) sc_law_red.nd rfl (by first | exact Or.inl rfl | exact Or.inr rfl) (px_str rfl))
  (pxb_cons (pxs_for PassesOwn.never rfl (by decide) (pxi_seq (px_var 0)) (pxg_name (i := 2) sc_law_red.nd rfl (by first | exact Or.inl rfl | exact Or.inr rfl))
    (pxb_one (pxs_set (i := 1) (by decide) sc_law_red.nd rfl (by first | exact Or.inl rfl | exact Or.inr rfl) (px_if (pxt_w (pxw_and (pxt_cmp (o_ne hr.units) (px_var 1) (px_str rfl)) (pxw_and1 (pxt_cmp (o_eq hr.units) (px_ix o_ix (px_var 1) (px_un o_neg px_int)) (px_callF [false] (ok_law_back V) hr (by decide) (by rfl) bd_law_back (pxa_cons (px_var 2) pxa_nil)))))) (px_sl o_sl (px_var 1) pxo_none (pxo_some (px_un o_neg px_int))) (px_op o_add (px_var 1) (px_var 2))))))
  (pxb_one (pxs_ret (px_var 1)))))
theorem sc_law_bracket : FnScope ["one", "two"] ["one", "two"] (defScope s_law_bracket) := ⟨rfl, rfl, rfl, by decide +kernel, rfl, by decide +kernel, by decide +kernel⟩
theorem bd_law_bracket : BindP "_law_bracket" s_law_bracket ["one", "two"] := fun _ _ _ _ _ _ us hl => match us, hl with | [_, _], _ => rfl
def g_law_bracket : Ev → R Out :=
  (dRet (dCall den_law_red [false] (dCons (dOp addD (dOp addD (dOp addD (dCall den_law_inv [false] (dCons (dVar 0) dNil)) (dCall den_law_inv [false] (dCons (dVar 1) dNil))) (dVar 0)) (dVar 1)) dNil)))
def den_law_bracket : FN := denOf [] 2 2 g_law_bracket
theorem ok_law_bracket (V : FEnv K mg) : DF P w K mg base "_law_bracket" s_law_bracket 3 ["one", "two"] den_law_bracket := df_mk (P := []) (N := ["one", "two"]) (g := g_law_bracket) V.glo_law_bracket V.fun_law_bracket sc_law_bracket fun cdv A outer s H E hr =>
  (pxb_one (pxs_ret (px_callF [false] (ok_law_red V) hr (by decide) (by rfl) bd_law_red (pxa_cons (px_op o_add (px_op o_add (px_op o_add (px_callF [false] (ok_law_inv V) hr (by decide) (by rfl) bd_law_inv (pxa_cons (px_var 0) pxa_nil)) (px_callF [false] (ok_law_inv V) hr (by decide) (by rfl) bd_law_inv (pxa_cons (px_var 1) pxa_nil))) (px_var 0)) (px_var 1)) pxa_nil))))
theorem sc_law_right : FnScope ["size", "word", "told", "own", "found", "pair", "part", "letter", "k", "sign"] ["size", "word", "told"] (defScope s_law_right) := ⟨rfl, rfl, rfl, by decide +kernel, rfl, by decide +kernel, by decide +kernel⟩
theorem bd_law_right : BindP "_law_right" s_law_right ["size", "word", "told"] := fun _ _ _ _ _ _ us hl => match us, hl with | [_, _, _], _ => rfl
def g_law_right : Ev → R Out :=
  (dSeq (dSet 3 (dLc (dIt (dSl slD (dC (.str [97, 98, 99])) dNoPart (dPart (dVar 0)))) (bName 7) dYes (dOp subD (dBM "str" countD (dVar 1) (dCons (dVar 7) dNil)) (dBM "str" countD (dVar 1) (dCons (dBM "str" uppD (dVar 7) dNil) dNil))) [7]))
  (dSeq (dIfS (dTest (dOp neD (dLc (dIt (dVar 3)) (bName 8) (dTest (dOp neD (dVar 8) (dC (.int 0)))) (dVar 8) [8]) (dLstE dNil)))
    (dRet (dOp isN (dVar 2) (dC .non)))
    dPass)
  (dSeq (dIfS (dNot (dTest (dIsi [3] (dVar 2))))
    (dRet (dC (.bl false)))
    dPass)
  (dSeq (dSet 4 (dC (.str [])))
  (dSeq (dFor (dIt (dVar 2)) (bName 5)
    (dSeq (dIfS (dOr (dNot (dTest (dIsi [3] (dVar 5)))) (dTest (dOp neD (dCB lenD (dCons (dVar 5) dNil)) (dC (.int 2)))))
      (dRet (dC (.bl false)))
      dPass)
    (dSeq (dFor (dIt (dVar 5)) (bName 6)
      (dIfS (dOr (dNot (dTest (dIsi [2] (dVar 6)))) (dTest (dOp neD (dLc (dIt (dVar 6)) (bName 9) (dTest (dOp ninD (dVar 9) (dCall den_law_signs [false] (dCons (dVar 0) dNil)))) (dVar 9) [9]) (dLstE dNil))))
        (dRet (dC (.bl false)))
        dPass))
    (dSet 4 (dCall den_law_red [false] (dCons (dOp addD (dVar 4) (dCall den_law_bracket [false, false] (dCons (dOp ixD (dVar 5) (dC (.int 0))) (dCons (dOp ixD (dVar 5) (dC (.int 1))) dNil)))) dNil))))))
  (dRet (dOp eqD (dVar 4) (dCall den_law_red [false] (dCons (dVar 1) dNil)))))))))
def den_law_right : FN := denOf [] 3 10 g_law_right
theorem ok_law_right (V : FEnv K mg) : DF P w K mg base "_law_right" s_law_right 4 ["size", "word", "told"] den_law_right := df_mk (P := []) (N := ["size", "word", "told", "own", "found", "pair", "part", "letter", "k", "sign"]) (g := g_law_right) V.glo_law_right V.fun_law_right sc_law_right fun cdv A outer s H E hr =>
  (pxb_cons (pxs_setLc (own := [("letter", 7)]) (i := 3) (by decide) rfl sc_law_right.nd rfl rfl (sw_true rfl rfl rfl rfl) (by decide) (pxi_seq (px_sl o_sl (px_str rfl) pxo_none (pxo_some (px_var 0)))) (blkOk_by (by kernel_rfl)) (fun _ _ _ _ _ => (pxg_name (i := 7) sc_law_right.nd rfl (by first | exact Or.inl rfl | exact Or.inr rfl))) (fun _ _ _ _ _ => pxts_nil) (fun _ _ _ _ _ => (px_op o_sub (px_bm PySem.F.plainAttrs_str PySem.F.slot_str_count PySem.F.type_str_count o_count (px_var 1) (pxa_cons (px_var 7) pxa_nil)) (px_bm PySem.F.plainAttrs_str PySem.F.slot_str_count PySem.F.type_str_count o_count (px_var 1) (pxa_cons (px_bm0 PySem.F.plainAttrs_str PySem.F.slot_str_upper PySem.F.type_str_upper o_upper (px_var 7)) pxa_nil)))))
  (pxb_cons (pxs_if (pxt_cmp (o_ne hr.units) (px_lc (own := [("k", 8)]) rfl sc_law_right.nd (by decide) (pxi_seq (px_var 3)) (blkOk_by (by kernel_rfl)) (fun _ _ _ _ _ => (pxg_name (i := 8) sc_law_right.nd rfl (by first | exact Or.inl rfl | exact Or.inr rfl))) (fun _ _ _ _ _ => (pxts_one (pxt_cmp (o_ne hr.units) (px_var 8) px_int))) (fun _ _ _ _ _ => (px_var 8))) (px_lst pxa_nil))
    (pxb_one (pxs_ret (px_cmp o_is (px_var 2) px_non)))
    pxb_nil)
  (pxb_cons (pxs_if (pxt_not (pxt_val (px_isi1 3 (by decide) rfl V.fr_isinstance rfl V.fr_tuple rfl (px_var 2))))
    (pxb_one (pxs_ret px_bl))
    pxb_nil)
  (pxb_cons (pxs_set (i := 4) (by decide) sc_law_right.nd rfl (by first | exact Or.inl rfl | exact Or.inr rfl) (px_str rfl))
  (pxb_cons (pxs_for PassesOwn.never rfl (by decide) (pxi_seq (px_var 2)) (pxg_name (i := 5) sc_law_right.nd rfl (by first | exact Or.inl rfl | exact Or.inr rfl))
    (pxb_cons (pxs_if (pxt_w (pxw_or (pxt_not (pxt_val (px_isi1 3 (by decide) rfl V.fr_isinstance rfl V.fr_tuple rfl (px_var 5)))) (pxw_or1 (pxt_cmp (o_ne hr.units) (px_callB o_len rfl V.fr_len rfl (pxa_cons (px_var 5) pxa_nil)) px_int))))
      (pxb_one (pxs_ret px_bl))
      pxb_nil)
    (pxb_cons (pxs_for PassesOwn.never rfl (by decide) (pxi_seq (px_var 5)) (pxg_name (i := 6) sc_law_right.nd rfl (by first | exact Or.inl rfl | exact Or.inr rfl))
      (pxb_one (pxs_if (pxt_w (pxw_or (pxt_not (pxt_val (px_isi1 2 (by decide) rfl V.fr_isinstance rfl V.fr_str rfl (px_var 6)))) (pxw_or1 (pxt_cmp (o_ne hr.units) (px_lc (own := [("sign", 9)]) rfl sc_law_right.nd (by decide) (pxi_seq (px_var 6)) (blkOk_by (by kernel_rfl)) (fun _ _ _ _ _ => (pxg_name (i := 9) sc_law_right.nd rfl (by first | exact Or.inl rfl | exact Or.inr rfl))) (fun _ _ _ _ _ => (pxts_one (pxt_cmp (o_nin (units65 hr)) (px_var 9) (px_callF [false] (ok_law_signs V) hr (by decide) (by rfl) bd_law_signs (pxa_cons (px_var 0) pxa_nil))))) (fun _ _ _ _ _ => (px_var 9))) (px_lst pxa_nil)))))
        (pxb_one (pxs_ret px_bl))
        pxb_nil)))
    (pxb_one (pxs_set (i := 4) (by decide) sc_law_right.nd rfl (by first | exact Or.inl rfl | exact Or.inr rfl) (px_callF [false] (ok_law_red V) hr (by decide) (by rfl) bd_law_red (pxa_cons (px_op o_add (px_var 4) (px_callF [false, false] (ok_law_bracket V) hr (by decide) (by rfl) bd_law_bracket (pxa_cons (px_ix o_ix (px_var 5) px_int) (pxa_cons (px_ix o_ix (px_var 5) px_int) pxa_nil)))) pxa_nil)))))))
  (pxb_one (pxs_ret (px_cmp (o_eq hr.units) (px_var 4) (px_callF [false] (ok_law_red V) hr (by decide) (by rfl) bd_law_red (pxa_cons (px_var 1) pxa_nil))))))))))
theorem sc_law_same : FnScope ["got", "due", "k"] ["got", "due"] (defScope s_law_same) := ⟨rfl, rfl, rfl, by decide +kernel, rfl, by decide +kernel, by decide +kernel⟩
theorem bd_law_same : BindP "_law_same" s_law_same ["got", "due"] := fun _ _ _ _ _ _ us hl => match us, hl with | [_, _], _ => rfl
theorem ok_law_same (V : FEnv K mg) : ∀ n, DF P w K mg base "_law_same" s_law_same (n + 1) ["got", "due"] (den_law_same n)
  | 0 => df_mk (P := []) (N := ["got", "due", "k"]) (g := dBad) V.glo_law_same V.fun_law_same sc_law_same fun cdv A outer s H E hr => pxb_bad
  | n + 1 => df_mk (P := []) (N := ["got", "due", "k"]) (g := g_law_same (den_law_same n)) V.glo_law_same V.fun_law_same sc_law_same fun cdv A outer s H E hr => have ok := ok_law_same V n; have hk := Nat.le_refl (n + 1);
  (pxb_cons (pxs_if (pxt_cmp o_is (px_var 1) px_non)
    (pxb_one (pxs_ret (px_cmp o_is (px_var 0) px_non)))
    pxb_nil)
  (pxb_cons (pxs_if (pxt_val (px_isi2 0 2 (by decide) (by decide) rfl V.fr_isinstance rfl V.fr_bool rfl rfl V.fr_str rfl (px_var 1)))
    (pxb_one (pxs_ret (px_and (px_cmp (o_eq hr.units) (px_isi1 0 (by decide) rfl V.fr_isinstance rfl V.fr_bool rfl (px_var 0)) (px_isi1 0 (by decide) rfl V.fr_isinstance rfl V.fr_bool rfl (px_var 1))) (px_and (px_isi2 0 2 (by decide) (by decide) rfl V.fr_isinstance rfl V.fr_bool rfl rfl V.fr_str rfl (px_var 0)) (px_one (px_cmp (o_eq hr.units) (px_var 0) (px_var 1)))))))
    pxb_nil)
  (pxb_cons (pxs_if (pxt_val (px_isi1 1 (by decide) rfl V.fr_isinstance rfl V.fr_int rfl (px_var 1)))
    (pxb_one (pxs_ret (px_and (px_isi1 1 (by decide) rfl V.fr_isinstance rfl V.fr_int rfl (px_var 0)) (px_and (px_not (px_isi1 0 (by decide) rfl V.fr_isinstance rfl V.fr_bool rfl (px_var 0))) (px_one (px_cmp (o_eq hr.units) (px_var 0) (px_var 1)))))))
    pxb_nil)
  (pxb_cons (pxs_if (pxt_w (pxw_or (pxt_cmp (o_ne hr.units) (px_isi1 4 (by decide) rfl V.fr_isinstance rfl V.fr_list rfl (px_var 1)) (px_isi1 4 (by decide) rfl V.fr_isinstance rfl V.fr_list rfl (px_var 0))) (pxw_or1 (pxt_cmp (o_ne hr.units) (px_isi1 3 (by decide) rfl V.fr_isinstance rfl V.fr_tuple rfl (px_var 1)) (px_isi1 3 (by decide) rfl V.fr_isinstance rfl V.fr_tuple rfl (px_var 0))))))
    (pxb_one (pxs_ret px_bl))
    pxb_nil)
  (pxb_one (pxs_ret (px_and (px_cmp (o_eq hr.units) (px_callB o_len rfl V.fr_len rfl (pxa_cons (px_var 0) pxa_nil)) (px_callB o_len rfl V.fr_len rfl (pxa_cons (px_var 1) pxa_nil))) (px_one (px_callB (o_all rfl) rfl V.fr_all rfl (pxa_cons (px_lc (own := [("k", 2)]) rfl sc_law_same.nd (by decide) (pxi_rng1 rfl V.fr_range (pxa_cons (px_callB o_len rfl V.fr_len rfl (pxa_cons (px_var 1) pxa_nil)) pxa_nil)) (blkOk_by (by kernel_rfl)) (fun _ _ _ _ _ => (pxg_name (i := 2) sc_law_same.nd rfl (by first | exact Or.inl rfl | exact Or.inr rfl))) (fun _ _ _ _ _ => pxts_nil) (fun _ _ _ _ _ => (px_callF [false, false] ok hr hk (by rfl) bd_law_same (pxa_cons (px_ix o_ix (px_var 0) (px_var 2)) (pxa_cons (px_ix o_ix (px_var 1) (px_var 2)) pxa_nil))))) pxa_nil))))))))))
theorem sc_sums : FnScope ["size", "word"] ["size", "word"] (defScope s_sums) := ⟨rfl, rfl, rfl, by decide +kernel, rfl, by decide +kernel, by decide +kernel⟩
theorem bd_sums : BindP "sums" s_sums ["size", "word"] := fun _ _ _ _ _ _ us hl => match us, hl with | [_, _], _ => rfl
theorem ok_sums (V : FEnv K mg) : DF P w K mg base "sums" s_sums 5 ["size", "word"] den_sums := df_mk (P := []) (N := ["size", "word"]) (g := g_sums) V.glo_sums V.fun_sums sc_sums fun cdv A outer s H E hr =>
  (pxb_one (pxs_ret (px_callF [false, false] (ok_sums_of V) hr (by decide) (by rfl) bd_sums_of (pxa_cons (px_var 0) (pxa_cons (px_callF [false, false] (ok_checked_word V) hr (by decide) (by rfl) bd_checked_word (pxa_cons (px_var 0) (pxa_cons (px_var 1) pxa_nil))) pxa_nil)))))
theorem sc_commutator_of : FnScope ["word", "second_word"] ["word", "second_word"] (defScope s_commutator_of) := ⟨rfl, rfl, rfl, by decide +kernel, rfl, by decide +kernel, by decide +kernel⟩
theorem bd_commutator_of : BindP "commutator_of" s_commutator_of ["word", "second_word"] := fun _ _ _ _ _ _ us hl => match us, hl with | [_, _], _ => rfl
def g_commutator_of : Ev → R Out :=
  (dRet (dCall den_reduced_of [false] (dCons (dOp addD (dOp addD (dOp addD (dCall den_inverse_of [false] (dCons (dVar 0) dNil)) (dCall den_inverse_of [false] (dCons (dVar 1) dNil))) (dVar 0)) (dVar 1)) dNil)))
def den_commutator_of : FN := denOf [] 2 2 g_commutator_of
theorem ok_commutator_of (V : FEnv K mg) : DF P w K mg base "commutator_of" s_commutator_of 2 ["word", "second_word"] den_commutator_of := df_mk (P := []) (N := ["word", "second_word"]) (g := g_commutator_of) V.glo_commutator_of V.fun_commutator_of sc_commutator_of fun cdv A outer s H E hr =>
  (pxb_one (pxs_ret (px_callF [false] (ok_reduced_of V) hr (by decide) (by rfl) bd_reduced_of (pxa_cons (px_op o_add (px_op o_add (px_op o_add (px_callF [false] (ok_inverse_of V) hr (by decide) (by rfl) bd_inverse_of (pxa_cons (px_var 0) pxa_nil)) (px_callF [false] (ok_inverse_of V) hr (by decide) (by rfl) bd_inverse_of (pxa_cons (px_var 1) pxa_nil))) (px_var 0)) (px_var 1)) pxa_nil))))
theorem sc_commutator : FnScope ["size", "word", "second_word", "own"] ["size", "word", "second_word"] (defScope s_commutator) := ⟨rfl, rfl, rfl, by decide +kernel, rfl, by decide +kernel, by decide +kernel⟩
theorem bd_commutator : BindP "commutator" s_commutator ["size", "word", "second_word"] := fun _ _ _ _ _ _ us hl => match us, hl with | [_, _, _], _ => rfl
def g_commutator : Ev → R Out :=
  (dSeq (dSet 3 (dCall den_checked_word [false, false] (dCons (dVar 0) (dCons (dVar 1) dNil))))
  (dSeq (dDrop (dCall den_check_word [false, false] (dCons (dVar 0) (dCons (dVar 2) dNil))))
  (dRet (dCall den_commutator_of [false, false] (dCons (dVar 3) (dCons (dVar 2) dNil))))))
def den_commutator : FN := denOf [] 3 4 g_commutator
theorem ok_commutator (V : FEnv K mg) : DF P w K mg base "commutator" s_commutator 5 ["size", "word", "second_word"] den_commutator := df_mk (P := []) (N := ["size", "word", "second_word", "own"]) (g := g_commutator) V.glo_commutator V.fun_commutator sc_commutator fun cdv A outer s H E hr =>
  (pxb_cons (pxs_set (i := 3) (by decide) sc_commutator.nd rfl (by first | exact Or.inl rfl | exact Or.inr rfl) (px_callF [false, false] (ok_checked_word V) hr (by decide) (by rfl) bd_checked_word (pxa_cons (px_var 0) (pxa_cons (px_var 1) pxa_nil))))
  (pxb_cons (pxs_expr (px_callF [false, false] (ok_check_word V) hr (by decide) (by rfl) bd_check_word (pxa_cons (px_var 0) (pxa_cons (px_var 2) pxa_nil))))
  (pxb_one (pxs_ret (px_callF [false, false] (ok_commutator_of V) hr (by decide) (by rfl) bd_commutator_of (pxa_cons (px_var 3) (pxa_cons (px_var 2) pxa_nil)))))))
theorem sc_law : FnScope ["script", "pot", "turn", "size", "word", "other", "told", "second", "both", "turner", "own", "k"] ["script"] (defScope s_law) := ⟨rfl, rfl, rfl, by decide +kernel, rfl, by decide +kernel, by decide +kernel⟩
theorem bd_law : BindP "law" s_law ["script"] := fun _ _ _ _ _ _ us hl => match us, hl with | [_], _ => rfl
def g_law : Ev → R Out :=
  (dSeq (dSet 1 (dOp addD (dLstE (dCons (dC (.int 0)) (dCons (dC (.int 61)) (dCons (dC (.int 3)) dNil)))) (dCB listD (dCons (dVar 0) dNil))))
  (dSeq (dFor (dRng1 (dCons (dC (.int 9)) dNil)) (bName 2)
    (dSeq (dSet 3 (dOp addD (dC (.int 1)) (dCall den_law_take [true, false] (dCons (dVar 1) (dCons (dC (.int 3)) dNil)))))
    (dSeq (dPar 4 5 (dCons (dCall den_law_drawn [true, false] (dCons (dVar 1) (dCons (dVar 3) dNil))) (dCons (dCall den_law_drawn [true, false] (dCons (dVar 1) (dCons (dVar 3) dNil))) dNil)))
    (dSeq (dPar 6 7 (dCons (dCall den_commutator_row [false, false] (dCons (dVar 3) (dCons (dVar 4) dNil))) (dCons (dCallK den_commutator_row [1, 0] (dAppA 0 2 dNil (dCons (dVar 5) (dCons (dVar 3) dNil)))) dNil)))
    (dSeq (dIfS (dOr (dNot (dTest (dCall den_law_right [false, false, false] (dCons (dVar 3) (dCons (dVar 4) (dCons (dVar 6) dNil)))))) (dNot (dTest (dCall den_law_right [false, false, false] (dCons (dVar 3) (dCons (dVar 5) (dCons (dVar 7) dNil)))))))
      (dRet (dC (.bl false)))
      dPass)
    (dSeq (dIfS (dTest (dOp neD (dOp isN (dVar 6) (dC .non)) (dOp neD (dLc (dIt (dCall den_sums [false, false] (dCons (dVar 3) (dCons (dVar 4) dNil)))) (bName 11) (dTest (dOp neD (dVar 11) (dC (.int 0)))) (dVar 11) [11]) (dLstE dNil))))
      (dRet (dC (.bl false)))
      dPass)
    (dSeq (dSet 8 (dCall den_product [false, false] (dCons (dVar 3) (dCons (dTupE (dCons (dVar 4) (dCons (dVar 5) dNil))) dNil))))
    (dSeq (dIfS (dAnd (dTest (dOp ltD (dCB lenD (dCons (dVar 8) dNil)) (dC (.int 25)))) (dNot (dTest (dCall den_law_right [false, false, false] (dCons (dVar 3) (dCons (dVar 8) (dCons (dCall den_commutator_row [false, false] (dCons (dVar 3) (dCons (dVar 8) dNil))) dNil)))))))
      (dRet (dC (.bl false)))
      dPass)
    (dSeq (dIfS (dAnd (dTest (dOp notN (dVar 6) (dC .non))) (dTest (dOp notN (dVar 7) (dC .non))))
      (dSeq (dIfS (dNot (dTest (dCall den_law_right [false, false, false] (dCons (dVar 3) (dCons (dOp addD (dVar 4) (dVar 5)) (dCons (dOp addD (dVar 6) (dVar 7)) dNil))))))
        (dRet (dC (.bl false)))
        dPass)
      (dIfS (dAnd (dTest (dOp neD (dVar 6) (dTupE dNil))) (dAnd (dTest (dOp ltD (dCB max2D (dCons (dCB lenD (dCons (dOp ixD (dOp ixD (dVar 6) (dC (.int 0))) (dC (.int 0))) dNil)) (dCons (dCB lenD (dCons (dOp ixD (dOp ixD (dVar 6) (dC (.int 0))) (dC (.int 1))) dNil)) dNil))) (dC (.int 25)))) (dNot (dTest (dCall (den_law_same 8) [false, false] (dCons (dCall den_commutator [false, false, false] (dCons (dVar 3) (dCons (dOp ixD (dOp ixD (dVar 6) (dC (.int 0))) (dC (.int 0))) (dCons (dOp ixD (dOp ixD (dVar 6) (dC (.int 0))) (dC (.int 1))) dNil)))) (dCons (dCall den_law_bracket [false, false] (dCons (dOp ixD (dOp ixD (dVar 6) (dC (.int 0))) (dC (.int 0))) (dCons (dOp ixD (dOp ixD (dVar 6) (dC (.int 0))) (dC (.int 1))) dNil))) dNil)))))))
        (dRet (dC (.bl false)))
        dPass))
      dPass)
    (dSeq (dSet 9 (dCall den_law_tight [true, false, false] (dCons (dVar 1) (dCons (dVar 3) (dCons (dCall den_law_take [true, false] (dCons (dVar 1) (dCons (dC (.int 4)) dNil))) dNil)))))
    (dFor (dIt (dTupE (dCons (dCall den_law_inv [false] (dCons (dVar 4) dNil)) (dCons (dCall den_law_red [false] (dCons (dOp addD (dOp addD (dCall den_law_inv [false] (dCons (dVar 9) dNil)) (dVar 4)) (dVar 9)) dNil)) (dCons (dCall den_law_red [false] (dCons (dVar 4) dNil)) (dCons (dC (.str [])) (dCons (dC (.str [97, 65])) dNil))))))) (bName 10)
      (dIfS (dAnd (dTest (dOp ltD (dCB lenD (dCons (dVar 10) dNil)) (dC (.int 25)))) (dNot (dTest (dCall den_law_right [false, false, false] (dCons (dVar 3) (dCons (dVar 10) (dCons (dCall den_commutator_row [false, false] (dCons (dVar 3) (dCons (dVar 10) dNil))) dNil)))))))
        (dRet (dC (.bl false)))
        dPass))))))))))))
  (dRet (dC (.bl true)))))
def den_law : FN := denOf [] 1 12 g_law
theorem ok_law (V : FEnv K mg) : DF P w K mg base "law" s_law 10 ["script"] den_law := df_mk (P := []) (N := ["script", "pot", "turn", "size", "word", "other", "told", "second", "both", "turner", "own", "k"]) (g := g_law) V.glo_law V.fun_law sc_law fun cdv A outer s H E hr =>
  (pxb_cons (pxs_set (i := 1) (by decide) sc_law.nd rfl (by first | exact Or.inl rfl | exact Or.inr rfl) (px_op o_add (px_lst (pxa_cons px_int (pxa_cons px_int (pxa_cons px_int pxa_nil)))) (px_callTy (o_list rfl) rfl V.fr_list rfl (pxa_cons (px_var 0) pxa_nil))))
  (pxb_cons (pxs_for PassesOwn.never rfl (by decide) (pxi_rng1 rfl V.fr_range (pxa_cons px_int pxa_nil)) (pxg_name (i := 2) sc_law.nd rfl (by first | exact Or.inl rfl | exact Or.inr rfl))
    (pxb_cons (pxs_set (i := 3) (by decide) sc_law.nd rfl (by first | exact Or.inl rfl | exact Or.inr rfl) (px_op o_add px_int (px_callF [true, false] (ok_law_take V) hr (by decide) (by rfl) bd_law_take (pxa_cons (px_var 1) (pxa_cons px_int pxa_nil)))))
    (pxb_cons (pxs_par (i := 4) (j := 5) (by decide) (by decide) rfl sc_law.nd rfl rfl (by decide) rfl rfl (pxa_cons (px_callF [true, false] (ok_law_drawn V) hr (by decide) (by rfl) bd_law_drawn (pxa_cons (px_var 1) (pxa_cons (px_var 3) pxa_nil))) (pxa_cons (px_callF [true, false] (ok_law_drawn V) hr (by decide) (by rfl) bd_law_drawn (pxa_cons (px_var 1) (pxa_cons (px_var 3) pxa_nil))) pxa_nil)))
    (pxb_cons (pxs_par (i := 6) (j := 7) (by decide) (by decide) rfl sc_law.nd rfl rfl (by decide) rfl rfl (pxa_cons (px_callF [false, false] (ok_commutator_row V) hr (by decide) (by rfl) bd_commutator_row (pxa_cons (px_var 3) (pxa_cons (px_var 4) pxa_nil))) (pxa_cons (px_callKF0 (ok_commutator_row V) hr (by decide) (by rfl) bk_commutator_row_0_word_size (pxk_cons (px_var 5) (pxk_cons (px_var 3) pxk_nil))) pxa_nil)))
    (pxb_cons (pxs_if (pxt_w (pxw_or (pxt_not (pxt_val (px_callF [false, false, false] (ok_law_right V) hr (by decide) (by rfl) bd_law_right (pxa_cons (px_var 3) (pxa_cons (px_var 4) (pxa_cons (px_var 6) pxa_nil)))))) (pxw_or1 (pxt_not (pxt_val (px_callF [false, false, false] (ok_law_right V) hr (by decide) (by rfl) bd_law_right (pxa_cons (px_var 3) (pxa_cons (px_var 5) (pxa_cons (px_var 7) pxa_nil)))))))))
      (pxb_one (pxs_ret px_bl))
      pxb_nil)
    (pxb_cons (pxs_if (pxt_cmp (o_ne hr.units) (px_cmp o_is (px_var 6) px_non) (px_cmp (o_ne hr.units) (px_lc (own := [("k", 11)]) rfl sc_law.nd (by decide) (pxi_seq (px_callF [false, false] (ok_sums V) hr (by decide) (by rfl) bd_sums (pxa_cons (px_var 3) (pxa_cons (px_var 4) pxa_nil)))) (blkOk_by (by kernel_rfl)) (fun _ _ _ _ _ => (pxg_name (i := 11) sc_law.nd rfl (by first | exact Or.inl rfl | exact Or.inr rfl))) (fun _ _ _ _ _ => (pxts_one (pxt_cmp (o_ne hr.units) (px_var 11) px_int))) (fun _ _ _ _ _ => (px_var 11))) (px_lst pxa_nil)))
      (pxb_one (pxs_ret px_bl))
      pxb_nil)
    (pxb_cons (pxs_set (i := 8) (by decide) sc_law.nd rfl (by first | exact Or.inl rfl | exact Or.inr rfl) (px_callF [false, false] (ok_product V) hr (by decide) (by rfl) bd_product (pxa_cons (px_var 3) (pxa_cons (px_tup (pxa_cons (px_var 4) (pxa_cons (px_var 5) pxa_nil))) pxa_nil))))
    (pxb_cons (pxs_if (pxt_w (pxw_and (pxt_cmp (o_lt hr.units) (px_callB o_len rfl V.fr_len rfl (pxa_cons (px_var 8) pxa_nil)) px_int) (pxw_and1 (pxt_not (pxt_val (px_callF [false, false, false] (ok_law_right V) hr (by decide) (by rfl) bd_law_right (pxa_cons (px_var 3) (pxa_cons (px_var 8) (pxa_cons (px_callF [false, false] (ok_commutator_row V) hr (by decide) (by rfl) bd_commutator_row (pxa_cons (px_var 3) (pxa_cons (px_var 8) pxa_nil))) pxa_nil)))))))))
      (pxb_one (pxs_ret px_bl))
      pxb_nil)
    (pxb_cons (pxs_if (pxt_w (pxw_and (pxt_cmp o_isnot (px_var 6) px_non) (pxw_and1 (pxt_cmp o_isnot (px_var 7) px_non))))
      (pxb_cons (pxs_if (pxt_not (pxt_val (px_callF [false, false, false] (ok_law_right V) hr (by decide) (by rfl) bd_law_right (pxa_cons (px_var 3) (pxa_cons (px_op o_add (px_var 4) (px_var 5)) (pxa_cons (px_op o_add (px_var 6) (px_var 7)) pxa_nil))))))
        (pxb_one (pxs_ret px_bl))
        pxb_nil)
      (pxb_one (pxs_if (pxt_w (pxw_and (pxt_cmp (o_ne hr.units) (px_var 6) (px_tup pxa_nil)) (pxw_and (pxt_cmp (o_lt hr.units) (px_callB (o_max2 rfl) rfl V.fr_max rfl (pxa_cons (px_callB o_len rfl V.fr_len rfl (pxa_cons (px_ix o_ix (px_ix o_ix (px_var 6) px_int) px_int) pxa_nil)) (pxa_cons (px_callB o_len rfl V.fr_len rfl (pxa_cons (px_ix o_ix (px_ix o_ix (px_var 6) px_int) px_int) pxa_nil)) pxa_nil))) px_int) (pxw_and1 (pxt_not (pxt_val (px_callF [false, false] (ok_law_same V 8) hr (by decide) (by rfl) bd_law_same (pxa_cons (px_callF [false, false, false] (ok_commutator V) hr (by decide) (by rfl) bd_commutator (pxa_cons (px_var 3) (pxa_cons (px_ix o_ix (px_ix o_ix (px_var 6) px_int) px_int) (pxa_cons (px_ix o_ix (px_ix o_ix (px_var 6) px_int) px_int) pxa_nil)))) (pxa_cons (px_callF [false, false] (ok_law_bracket V) hr (by decide) (by rfl) bd_law_bracket (pxa_cons (px_ix o_ix (px_ix o_ix (px_var 6) px_int) px_int) (pxa_cons (px_ix o_ix (px_ix o_ix (px_var 6) px_int) px_int) pxa_nil))) pxa_nil)))))))))
        (pxb_one (pxs_ret px_bl))
        pxb_nil)))
      pxb_nil)
    (pxb_cons (pxs_set (i := 9) (by decide) sc_law.nd rfl (by first | exact Or.inl rfl | exact Or.inr rfl) (px_callF [true, false, false] (ok_law_tight V) hr (by decide) (by rfl) bd_law_tight (pxa_cons (px_var 1) (pxa_cons (px_var 3) (pxa_cons (px_callF [true, false] (ok_law_take V) hr (by decide) (by rfl) bd_law_take (pxa_cons (px_var 1) (pxa_cons px_int pxa_nil))) pxa_nil)))))
    (pxb_one (pxs_for PassesOwn.never rfl (by decide) (pxi_seq (px_tup (pxa_cons (px_callF [false] (ok_law_inv V) hr (by decide) (by rfl) bd_law_inv (pxa_cons (px_var 4) pxa_nil)) (pxa_cons (px_callF [false] (ok_law_red V) hr (by decide) (by rfl) bd_law_red (pxa_cons (px_op o_add (px_op o_add (px_callF [false] (ok_law_inv V) hr (by decide) (by rfl) bd_law_inv (pxa_cons (px_var 9) pxa_nil)) (px_var 4)) (px_var 9)) pxa_nil)) (pxa_cons (px_callF [false] (ok_law_red V) hr (by decide) (by rfl) bd_law_red (pxa_cons (px_var 4) pxa_nil)) (pxa_cons (px_str rfl) (pxa_cons (px_str rfl) pxa_nil))))))) (pxg_name (i := 10) sc_law.nd rfl (by first | exact Or.inl rfl | exact Or.inr rfl))
      (pxb_one (pxs_if (pxt_w (pxw_and (pxt_cmp (o_lt hr.units) (px_callB o_len rfl V.fr_len rfl (pxa_cons (px_var 10) pxa_nil)) px_int) (pxw_and1 (pxt_not (pxt_val (px_callF [false, false, false] (ok_law_right V) hr (by decide) (by rfl) bd_law_right (pxa_cons (px_var 3) (pxa_cons (px_var 10) (pxa_cons (px_callF [false, false] (ok_commutator_row V) hr (by decide) (by rfl) bd_commutator_row (pxa_cons (px_var 3) (pxa_cons (px_var 10) pxa_nil))) pxa_nil)))))))))
        (pxb_one (pxs_ret px_bl))
        pxb_nil))))))))))))))
  (pxb_one (pxs_ret px_bl))))
end
end LawWalk

set_option Elab.async false
set_option linter.all false
set_option maxRecDepth 100000
set_option maxHeartbeats 1000000
namespace LawPlain
open DN L2 Wf LawWalk
local macro_rules | `(tactic| tb_rel) => `(tactic| simp only [e_seq, e_seqN, e_seqR, e_seqB, e_seqC, e_pass, e_brk, e_cnt, e_drop, e_dropK, e_ret, e_retK, e_retN, e_set, setK, e_asg, asgK, e_par, parK, R.bind_ok, R.bind_exc, R.bind_bad, e_var, e_varK0, e_varK1, e_varKi, e_c, e_un, unK, e_op, e_opK, opK2, e_nil, e_cons, e_consK, e_consK2, e_cb, cbK, e_bm, e_bmKs, bmK2, e_noPart, e_part, partK, e_sl, e_slK, e_slK1, slK2, e_test, testK, e_and, e_andT, e_andF, e_or, e_orT, e_orF, e_not, e_notK, e_if, e_ifT, e_ifF, e_ifS, e_andV, e_andVT, e_andVF, e_orV, e_orVT, e_orVF, e_notV, e_notVK, e_chain, e_chK, e_chM, e_chMb, e_opv, e_ch3T, e_ch3F, e_isi, isiK, e_tup, tupK, e_lst, lstK, e_call, e_callK, e_callL, e_callK2, e_appA, e_appAK, e_appAK2, e_callKw, e_kwK, e_kwL, e_kwK2, e_aug, e_augL, augK, e_app, e_appL, appK, e_setI, e_setIK, e_setIL, setIK2, e_augI, e_augIL, e_augIK, e_augIR, e_augI0, e_augI1, augI2, e_for, e_forK, e_wh, e_whT, e_whF, e_whN, e_whC, e_whX, e_whR, e_popI, e_popIL, e_it, itK, e_rng1, rng1K, e_rng2, rng2K, e_lc, e_yes, passN, pass1, fz1, fzs, backN, back1, rds, e_rd0, e_rd1, e_rda, e_rdS0, e_rdS1, e_rdS2, e_rdS3, Sl.o1, Sl.re, fins, fin1, argOk, bName, bNil, bCons, bTup, out_some, out_none, e_finN, e_finR, List.getElem?_cons_zero, List.getElem?_cons_succ, List.getElem?_nil, List.set_cons_zero, List.set_cons_succ, List.length_cons, List.length_nil, List.cons_append, List.nil_append, List.append_nil, List.replicate_succ, List.replicate_zero, Option.map_some, Option.map_none, Option.bind_some, pick_cons, pick_nil', List.map_cons, List.map_nil, List.any_cons, List.any_nil, isC, Bool.not_true, Bool.not_false, Bool.or_false, Bool.or_true, Bool.true_or, Bool.false_or, Nat.reduceAdd, Nat.reduceSub, Nat.reduceLT, Nat.reduceLeDiff, Nat.reduceEqDiff, reduceIte, and_self, if_true, ite_true, true_and, and_true, Nat.zero_add, List.length_map, Nat.lt_add_left_iff_pos, Nat.zero_lt_succ, v_add, v_sub, v_neg, v_iadd, v_lt, v_gt, v_le, v_ge, v_eqi, v_eqs, v_eqb, v_nei, v_nes, v_neb, v_isn, v_notn, v_int, v_abs, v_lenl, v_lenf, v_lent, v_tupl, v_tupt, v_listl, v_listf, v_listt, v_revl, v_sll, v_slt, v_in1, v_cnt, isnB, restE, wipeE, frzS])
open PyProof.Rows (lo1 up1)
/-! ### brackets -/
def brk (x y : List Nat) : List Nat := red (inv x ++ inv y ++ x ++ y)
def pairD (p : List Nat × List Nat) : D := .tup [.str p.1, .str p.2]
def valF (f : List Nat) (ps : List (List Nat × List Nat)) : List Nat := ps.foldl (fun f p => red (f ++ brk p.1 p.2)) f
theorem valF_snoc (f : List Nat) (ps : List (List Nat × List Nat)) (p : List Nat × List Nat) : valF f (ps ++ [p]) = red (valF f ps ++ brk p.1 p.2) := by
  unfold valF; rw [List.foldl_append]; rfl
theorem valF_app (f : List Nat) (ps qs : List (List Nat × List Nat)) : valF f (ps ++ qs) = valF (valF f ps) qs := List.foldl_append
theorem valF_from : ∀ (qs : List (List Nat × List Nat)) (f : List Nat), red (valF f qs) = red (f ++ valF [] qs) := by
  intro qs
  induction qs with
  | nil => intro f; simp [valF]
  | cons q qs ih =>
    intro f
    have e1 : valF f (q :: qs) = valF (red (f ++ brk q.1 q.2)) qs := rfl
    have e2 : valF [] (q :: qs) = valF (red ([] ++ brk q.1 q.2)) qs := rfl
    have h1 := ih (red (f ++ brk q.1 q.2))
    have h2 := ih (red ([] ++ brk q.1 q.2))
    have h3 : red (valF [] (q :: qs)) = red (brk q.1 q.2 ++ valF [] qs) := by rw [e2, h2, red_l]; simp
    rw [e1, h1, red_l, List.append_assoc, ← red_r f (valF [] (q :: qs)), h3, red_r]
theorem brk_step (a : Nat) (u v : List Nat) : red (brk [sw1 a] (inv u) ++ (u ++ v)) = red (a :: u ++ sw1 a :: v) := by
  unfold brk
  rw [red_l]
  have e : inv [sw1 a] ++ inv (inv u) ++ [sw1 a] ++ inv u ++ (u ++ v) = (a :: u ++ [sw1 a]) ++ ((inv u ++ u) ++ v) := by
    rw [inv_inv]
    simp [inv, sw_sw]
  rw [e]
  have h : Eqv (inv u ++ u) [] := eqv_of_red (red_inv_l u)
  have h2 : Eqv ((inv u ++ u) ++ v) v := h.app (.refl v)
  have := ((Eqv.refl (a :: u ++ [sw1 a])).app h2).red
  rw [this]
  simp
/-- no letter more than its inverse -/
def Z (n : Nat) (w : List Nat) : Prop := ∀ a, Ltr n a → ex a w = 0
theorem ex_sw (a : Nat) (w : List Nat) : ex (sw1 a) w = - ex a w := by
  unfold ex
  rw [sw_sw]
  omega
theorem Z_iff {n : Nat} {w : List Nat} (hn : n ≤ 26) : Z n w ↔ ∀ a ∈ List.range' 97 n, ex a w = 0 := by
  constructor
  · intro h a ha
    rw [List.mem_range'_1] at ha
    exact h a (.inl (by omega))
  · intro h a ha
    rcases ha with ha | ha
    · exact h a (by rw [List.mem_range'_1]; omega)
    · have h1 := h (a + 32) (by rw [List.mem_range'_1]; omega)
      have e : a = sw1 (a + 32) := by
        unfold sw1
        rw [if_neg (by omega), if_pos (by omega)]; omega
      rw [e, ex_sw, h1]; rfl
theorem Z.red {n : Nat} {w : List Nat} (h : Z n w) : Z n (Wf.red w) := fun a ha => by rw [ex_red]; exact h a ha
theorem Z.app {n : Nat} {u v : List Nat} (h : Z n u) (g : Z n v) : Z n (u ++ v) := fun a ha => by rw [ex_app, h a ha, g a ha]; rfl
theorem ex_one (a c : Nat) : ex a [sw1 c] + ex a [c] = 0 := by
  unfold ex
  simp only [List.count_cons, List.count_nil]
  have e1 : (sw1 c == a) = (c == sw1 a) := by
    rw [Bool.eq_iff_iff]; simp
    constructor
    · intro h; rw [← h, sw_sw]
    · intro h; rw [h, sw_sw]
  have e2 : (sw1 c == sw1 a) = (c == a) := by
    rw [Bool.eq_iff_iff]; simp
    constructor
    · intro h; have := congrArg sw1 h; rwa [sw_sw, sw_sw] at this
    · intro h; rw [h]
  rw [e1, e2]
  omega
/-- where the inverse of the first letter stands -/
theorem split_first {n : Nat} (hn : n ≤ 26) {a : Nat} {r : List Nat} (hL : Ltrs n (a :: r)) (hZ : Z n (a :: r)) : ∃ u v, r = u ++ sw1 a :: v ∧ (a :: r).idxOf (sw1 a) = u.length + 1 ∧ sw1 a ∈ a :: r ∧ Z n (u ++ v) := by
  have ha := hL a (List.mem_cons_self ..)
  have h0 := hZ a ha
  have hne : sw1 a ≠ a := ha.ne hn
  have hm : sw1 a ∈ r := by
    unfold ex at h0
    have h1 : 0 < (a :: r).count a := List.count_pos_iff.mpr (List.mem_cons_self ..)
    have h2 : 0 < (a :: r).count (sw1 a) := by omega
    rcases List.mem_cons.mp (List.count_pos_iff.mp h2) with h | h
    · exact absurd h hne
    · exact h
  have hb : (a == sw1 a) = false := by simpa using Ne.symm hne
  have hi : (a :: r).idxOf (sw1 a) = r.idxOf (sw1 a) + 1 := by rw [List.idxOf_cons, hb]; rfl
  have hlt : r.idxOf (sw1 a) < r.length := List.idxOf_lt_length_iff.mpr hm
  refine ⟨r.take (r.idxOf (sw1 a)), r.drop (r.idxOf (sw1 a) + 1), ?_, by rw [hi, List.length_take]; omega, List.mem_cons_of_mem _ hm, ?_⟩
  · have hg : r[r.idxOf (sw1 a)]? = some (sw1 a) := by
      rw [List.getElem?_eq_getElem hlt, List.getElem_idxOf hlt]
    rw [← drop_cons hg, List.take_append_drop]
  · intro b hb
    have hg : r[r.idxOf (sw1 a)]? = some (sw1 a) := by
      rw [List.getElem?_eq_getElem hlt, List.getElem_idxOf hlt]
    have e : r = r.take (r.idxOf (sw1 a)) ++ ([sw1 a] ++ r.drop (r.idxOf (sw1 a) + 1)) := by
      show r = r.take (r.idxOf (sw1 a)) ++ (sw1 a :: r.drop (r.idxOf (sw1 a) + 1))
      rw [← drop_cons hg, List.take_append_drop]
    have h1 := hZ b hb
    have h2 : ex b (a :: r) = ex b [a] + ex b r := ex_app b [a] r
    rw [h2] at h1
    rw [e, ex_app, ex_app] at h1
    have := ex_one b a
    rw [ex_app]
    omega
/-! ### the program's row of commutators -/
def coB : Ev → R Out := (dSeq (dSet 2 (dBM "str" indexD (dVar 0) (dCons (dBM "str" swcD (dOp ixD (dVar 0) (dC (.int 0))) dNil) dNil)))
    (dSeq (dApp 1 (dTupE (dCons (dBM "str" swcD (dOp ixD (dVar 0) (dC (.int 0))) dNil) (dCons (dCall den_inverse_of [false] (dCons (dSl slD (dVar 0) (dPart (dC (.int 1))) (dPart (dVar 2))) dNil)) dNil))))
    (dSet 0 (dCall den_reduced_of [false] (dCons (dOp addD (dSl slD (dVar 0) (dPart (dC (.int 1))) (dPart (dVar 2))) (dSl slD (dVar 0) (dPart (dOp addD (dVar 2) (dC (.int 1)))) dNoPart)) dNil)))))
theorem cut_mid {α : Type} (t : List α) (i j : Nat) (h : j ≤ t.length) : cut t (some (i : Int)) (some (j : Int)) = (t.drop i).take (j - i) := by
  unfold cut HT.sIx
  simp only [Int.toNat_natCast]
  rw [if_neg (by omega), if_neg (by omega), Nat.min_eq_left h]
  rcases Nat.le_total i t.length with hi | hi
  · rw [Nat.min_eq_left hi]
  · rw [Nat.min_eq_right hi, List.drop_eq_nil_of_le (Nat.le_refl _), List.drop_eq_nil_of_le hi]
    simp
theorem coB_ok {n : Nat} (hn : n ≤ 26) {a : Nat} {u v : List Nat} {acc : List (List Nat × List Nat)} {x : Sl} (hL : Ltrs n (a :: (u ++ sw1 a :: v))) (hi : (a :: (u ++ sw1 a :: v)).idxOf (sw1 a) = u.length + 1) (hl : (a :: (u ++ sw1 a :: v)).length ≤ 100000) (hacc : acc.length < 100000) :
    ∃ y, coB [sS (a :: (u ++ sw1 a :: v)), .vl 1 (.lst (acc.map pairD)), x] = .ok .nx [sS (red (u ++ v)), .vl 1 (.lst ((acc ++ [([sw1 a], inv u)]).map pairD)), y] := by
  have hm : sw1 a ∈ a :: (u ++ sw1 a :: v) := by simp
  have ha : a < 128 := (hL a (List.mem_cons_self ..)).lt hn
  have hlen : u.length + v.length + 2 ≤ 100000 := by simp at hl; omega
  have h0 := v_ixs (s := a :: (u ++ sw1 a :: v)) (j := 0) (c := a) (by omega) rfl
  have hx := v_idx hm
  rw [hi] at hx
  have s1 := v_sls (s := a :: (u ++ sw1 a :: v)) (lo := some ((1 : Nat) : Int)) (hi := some ((u.length + 1 : Nat) : Int)) (by omega)
  rw [cut_mid _ _ _ (by simp)] at s1
  have e1 : ((a :: (u ++ sw1 a :: v)).drop 1).take (u.length + 1 - 1) = u := by simp
  rw [e1] at s1
  have s2 := v_sls (s := a :: (u ++ sw1 a :: v)) (lo := some ((u.length + 1 + 1 : Nat) : Int)) (hi := none) (by omega)
  rw [cut_from] at s2
  have e2 : (a :: (u ++ sw1 a :: v)).drop (u.length + 1 + 1) = v := by simp
  rw [e2] at s2
  have e3 : (((u.length + 1 : Nat) : Int) + 1) = ((u.length + 1 + 1 : Nat) : Int) := by omega
  have aw := hL.asc hn
  have au : asc u = true := asc_of aw fun c hc => by simp [hc]
  have av : asc (u ++ v) = true := asc_of aw fun c hc => by
    rcases List.mem_append.mp hc with hc | hc
    · simp [hc]
    · simp [hc]
  have h3 := inverse_of_ok au (by omega)
  have h4 := v_adds (s := u) (z := v) (by omega)
  have h5 := reduced_of_ok av (by simp; omega)
  have hle : (2 ≤ 10000) = True := by simp
  have hac : (acc.length < 1000000) = True := eq_true (by omega)
  have hb : (dCons (dBM "str" swcD (dOp ixD (dVar 0) (dC (.int 0))) dNil) dNil) [sS (a :: (u ++ sw1 a :: v)), .vl 1 (.lst (acc.map pairD)), x] = .ok [.vl 0 (.str [sw1 a])] [sS (a :: (u ++ sw1 a :: v)), .vl 1 (.lst (acc.map pairD)), x] := by
    have h0' : ixD (.str (a :: (u ++ sw1 a :: v))) (.int 0) = some (0, .str [a]) := h0
    repeat first | tb_rel | simp only [h0', swc1 ha]
  have h0' : ixD (.str (a :: (u ++ sw1 a :: v))) (.int 0) = some (0, .str [a]) := h0
  have s1' : slD (.str (a :: (u ++ sw1 a :: v))) (some 1) (some ((u.length + 1 : Nat) : Int)) = some (0, .str u) := s1
  refine ⟨sI ((u.length + 1 : Nat) : Int), ?_⟩
  simp only [coB]
  repeat first | tb_rel | simp only [h0', swc1 ha, hx, s1', s2, e3, h3, h4, h5, hle, hac, List.length_map]
  simp [pairD]
theorem coW : ∀ (f : Nat) {n : Nat} (hn : n ≤ 26) (w : List Nat) (acc : List (List Nat × List Nat)) (x : Sl) (W : List Nat), w.length < 2 * f → w.length + 2 * acc.length ≤ 100000 → Ltrs n w → Z n w → red (valF [] acc ++ w) = W → red (valF [] acc) = valF [] acc → (∀ p ∈ acc, Ltrs n p.1 ∧ Ltrs n p.2 ∧ p.1.length ≤ 24 ∧ p.2.length ≤ 24) → w.length ≤ 24 →
    ∃ (ps : List (List Nat × List Nat)) (y : Sl) (w' : Sl), dWh (dTest (dOp neD (dVar 0) (dC (.str [])))) coB f [sS w, .vl 1 (.lst (acc.map pairD)), x] = .ok .nx [w', .vl 1 (.lst (ps.map pairD)), y] ∧ valF [] ps = W ∧ (∀ p ∈ ps, Ltrs n p.1 ∧ Ltrs n p.2 ∧ p.1.length ≤ 24 ∧ p.2.length ≤ 24) ∧ 2 * ps.length ≤ w.length + 2 * acc.length
  | 0, n, hn, w, acc, x, W, hf, _, _, _, _, _, _, _ => absurd hf (Nat.not_lt_zero _)
  | f + 1, n, hn, [], acc, x, W, hf, hl, hL, hZ, hW, hr, hp, _ => by
    refine ⟨acc, x, sS [], ?_, ?_, hp, by simp⟩
    · have e : (!(([] : List Nat) == [])) = false := rfl
      rw [e_wh]
      repeat first | tb_rel | simp only [e]
    · rw [List.append_nil] at hW
      rw [← hW, hr]
  | f + 1, n, hn, a :: r, acc, x, W, hf, hl, hL, hZ, hW, hr, hp, hlw => by
    obtain ⟨u, v, rfl, hi, hm, hZ'⟩ := split_first hn hL hZ
    have hlen : (a :: (u ++ sw1 a :: v)).length = u.length + v.length + 2 := by simp; omega
    obtain ⟨y, e1⟩ := coB_ok (acc := acc) (x := x) hn hL hi (by omega) (by omega)
    have hLuv : Ltrs n (u ++ v) := fun c hc => hL c (by
      rcases List.mem_append.mp hc with hc | hc
      · simp [hc]
      · simp [hc])
    have hrl := red_len (u ++ v)
    rw [List.length_append] at hrl
    have ha := hL a (List.mem_cons_self ..)
    obtain ⟨ps, y', w', e2, e3, e4, e5⟩ := coW f hn (red (u ++ v)) (acc ++ [([sw1 a], inv u)]) y W (by omega) (by rw [List.length_append]; simp; omega) hLuv.red hZ'.red (by
      rw [valF_snoc, red_r, red_l, List.append_assoc, ← red_r, brk_step, red_r]
      exact hW) (by rw [valF_snoc, red_idem]) (fun p hp' => by
      rcases List.mem_append.mp hp' with hp' | hp'
      · exact hp p hp'
      · rw [List.mem_singleton.mp hp']
        exact ⟨fun c hc => by rw [List.mem_singleton.mp hc]; exact ha.sw hn, Ltrs.inv hn fun c hc => hLuv c (List.mem_append_left _ hc), by simp, by rw [inv_len]; omega⟩) (by omega)
    refine ⟨ps, y', w', ?_, e3, e4, by rw [List.length_append] at e5; simp at e5; omega⟩
    have e : (!((a :: (u ++ sw1 a :: v)) == [])) = true := rfl
    rw [e_wh]
    repeat first | tb_rel | simp only [e]
    rw [e1, e_whN, e2]
theorem coms_ok {n : Nat} (hn : n ≤ 26) {w : List Nat} (hL : Ltrs n w) (hZ : Z n w) (hr : Red w) (hl : w.length ≤ 24) : ∃ ps : List (List Nat × List Nat), den_commutators_of [sS w] = .ok (1, .lst (ps.map pairD)) [sS w] ∧ valF [] ps = w ∧ (∀ p ∈ ps, Ltrs n p.1 ∧ Ltrs n p.2 ∧ p.1.length ≤ 24 ∧ p.2.length ≤ 24) ∧ 2 * ps.length ≤ w.length := by
  obtain ⟨ps, y, w', e1, e2, e3, e4⟩ := coW 1000 hn w [] .un w (by omega) (by simp; omega) hL hZ (by simpa [valF] using red_fix hr) (by simp [valF]; rfl) (fun _ h => by cases h) (by omega)
  refine ⟨ps, ?_, e2, e3, by simpa using e4⟩
  rw [den_commutators_of, e_den (by rfl) (by rfl)]
  have hg : g_commutators_of = dSeq (dSet 1 (dLstE dNil)) (dSeq (dWh (dTest (dOp neD (dVar 0) (dC (.str [])))) coB 1000) (dRet (dVar 1))) := rfl
  rw [hg]
  have e1 : dWh (dTest (dOp neD (dVar 0) (dC (.str [])))) coB 1000 [sS w, .vl 1 (.lst []), .un] = .ok .nx [w', .vl 1 (.lst (ps.map pairD)), y] := e1
  have hle : (0 ≤ 10000) = True := by simp
  simp only [e_seq, e_set, e_lst, e_nil, R.bind_ok, lstK, fzs, List.length_nil, hle, if_true, setK, List.length_cons, List.cons_append, List.nil_append, List.replicate_succ, List.replicate_zero, Nat.reduceSub, Nat.reduceAdd, Nat.reduceLT, List.set_cons_succ, List.set_cons_zero, e_seqN, e1, e_ret, e_var, List.getElem?_cons_succ, List.getElem?_cons_zero, e_varK1, e_retK]
  rw [e_finA (i := 1) (k := 1) (d := .lst (ps.map pairD)) rfl]
  rfl
end LawPlain

set_option Elab.async false
set_option linter.all false
set_option maxRecDepth 100000
set_option maxHeartbeats 2000000
namespace LawPlain
open DN L2 Wf LawWalk
local macro_rules | `(tactic| tb_rel) => `(tactic| simp only [e_seq, e_seqN, e_seqR, e_seqB, e_seqC, e_pass, e_brk, e_cnt, e_drop, e_dropK, e_ret, e_retK, e_retN, e_set, setK, e_asg, asgK, e_par, parK, R.bind_ok, R.bind_exc, R.bind_bad, e_var, e_varK0, e_varK1, e_varKi, e_c, e_un, unK, e_op, e_opK, opK2, e_nil, e_cons, e_consK, e_consK2, e_cb, cbK, e_bm, e_bmKs, bmK2, e_noPart, e_part, partK, e_sl, e_slK, e_slK1, slK2, e_test, testK, e_and, e_andT, e_andF, e_or, e_orT, e_orF, e_not, e_notK, e_if, e_ifT, e_ifF, e_ifS, e_andV, e_andVT, e_andVF, e_orV, e_orVT, e_orVF, e_notV, e_notVK, e_chain, e_chK, e_chM, e_chMb, e_opv, e_ch3T, e_ch3F, e_isi, isiK, e_tup, tupK, e_lst, lstK, e_call, e_callK, e_callL, e_callK2, e_appA, e_appAK, e_appAK2, e_callKw, e_kwK, e_kwL, e_kwK2, e_aug, e_augL, augK, e_app, e_appL, appK, e_setI, e_setIK, e_setIL, setIK2, e_augI, e_augIL, e_augIK, e_augIR, e_augI0, e_augI1, augI2, e_for, e_forK, e_wh, e_whT, e_whF, e_whN, e_whC, e_whX, e_whR, e_popI, e_popIL, e_it, itK, e_rng1, rng1K, e_rng2, rng2K, e_lc, e_yes, passN, pass1, fz1, fzs, backN, back1, rds, e_rd0, e_rd1, e_rda, e_rdS0, e_rdS1, e_rdS2, e_rdS3, Sl.o1, Sl.re, fins, fin1, argOk, bName, bNil, bCons, bTup, out_some, out_none, e_finN, e_finR, List.getElem?_cons_zero, List.getElem?_cons_succ, List.getElem?_nil, List.set_cons_zero, List.set_cons_succ, List.length_cons, List.length_nil, List.cons_append, List.nil_append, List.append_nil, List.replicate_succ, List.replicate_zero, Option.map_some, Option.map_none, Option.bind_some, pick_cons, pick_nil', List.map_cons, List.map_nil, List.any_cons, List.any_nil, isC, Bool.not_true, Bool.not_false, Bool.or_false, Bool.or_true, Bool.true_or, Bool.false_or, Nat.reduceAdd, Nat.reduceSub, Nat.reduceLT, Nat.reduceLeDiff, Nat.reduceEqDiff, reduceIte, and_self, if_true, ite_true, true_and, and_true, Nat.zero_add, List.length_map, Nat.lt_add_left_iff_pos, Nat.zero_lt_succ, v_add, v_sub, v_neg, v_iadd, v_lt, v_gt, v_le, v_ge, v_eqi, v_eqs, v_eqb, v_nei, v_nes, v_neb, v_isn, v_notn, v_int, v_abs, v_lenl, v_lenf, v_lent, v_tupl, v_tupt, v_listl, v_listf, v_listt, v_revl, v_sll, v_slt, v_in1, v_cnt, isnB, restE, wipeE, frzS])
open PyProof.Rows (lo1 up1)
theorem okEs_ints {α : Type} (f : α → Int) : ∀ l : List α, okEs (l.map fun a => D.int (f a)) = true
  | [] => rfl
  | x :: l => by show (true && okEs (l.map fun a => D.int (f a))) = true; rw [okEs_ints f l]; rfl
theorem deps_ints {α : Type} (f : α → Int) : ∀ l : List α, deps (l.map fun a => D.int (f a)) = 0
  | [] => rfl
  | x :: l => by show max 0 (deps (l.map fun a => D.int (f a))) = 0; rw [deps_ints f l]; rfl
theorem ne_ints {α : Type} (f : α → Int) (l : List α) : neD (.lst (l.map fun a => D.int (f a))) (.lst []) = some (0, .bl (!l.isEmpty)) := by
  unfold neD
  have hc : canEq (.lst (l.map fun a => D.int (f a))) (.lst []) = true := by
    show (false || (okEs (l.map fun a => D.int (f a)) && true && decide (deps (l.map fun a => D.int (f a)) + 1 ≤ 64) && decide (0 + 1 ≤ 64))) = true
    rw [okEs_ints, deps_ints]
    rfl
  rw [if_pos hc]
  cases l <;> rfl
def nzs (n : Nat) (w : List Nat) : List Nat := (List.range' 97 n).filter fun a => !(ex a w == 0)
theorem nzs_Z {n : Nat} {w : List Nat} (hn : n ≤ 26) : (nzs n w).isEmpty = true ↔ Z n w := by
  rw [Z_iff hn, List.isEmpty_iff]
  unfold nzs
  rw [List.filter_eq_nil_iff]
  constructor
  · intro h a ha
    have := h a ha
    simpa using this
  · intro h a ha
    have := h a ha
    simpa using this
/-- what the program's row may be -/
def Told (n : Nat) (w : List Nat) (d : D) : Prop := (¬ Z n w ∧ d = .non) ∨ (Z n w ∧ ∃ ps : List (List Nat × List Nat), d = .tup (ps.map pairD) ∧ valF [] ps = red w ∧ (∀ p ∈ ps, Ltrs n p.1 ∧ Ltrs n p.2 ∧ p.1.length ≤ 24 ∧ p.2.length ≤ 24) ∧ ps.length ≤ 24)
theorem row_ok {n : Nat} (hn : S3 n) {w : List Nat} (hL : Ltrs n w) (hl : w.length ≤ 24) : ∃ d, den_commutator_row [sI n, sS w] = .ok (0, d) [sI n, sS w] ∧ Told n w d := by
  have h1 := checked_word_ok hn.sz hL (by omega)
  have hrl := red_len w
  have h2 := sums_of_ok (n := n) (w := red w) hn.le
  rw [sumsD_red] at h2
  have hlc : lcK (bName 3) dYes (dOp neD (dVar 3) (dC (.int 0))) [3] ((List.range' 97 n).map fun a => D.int (ex a w)) [sI n, sS w, sS (red w), .un] = .ok (.vl 1 (.lst ((List.range' 97 n).map fun a => D.bl (!(ex a w == 0))))) (restE [sI n, sS w, sS (red w), .un] [3] [sI n, sS w, sS (red w), .un]) :=
    lc_each (q := fun a => D.int (ex a w)) (g := fun a => D.bl (!(ex a w == 0))) [sI n, sS w, sS (red w), .un] (List.range' 97 n) (by have := hn.le; simp; omega) rfl fun a _ => by
      refine ⟨[sI n, sS w, sS (red w), sI (ex a w)], .vl 0 (.bl (!(ex a w == 0))), [sI n, sS w, sS (red w), sI (ex a w)], [sI n, sS w, sS (red w), sI (ex a w)], rfl, ?_, rfl, rfl⟩
      repeat first | tb_rel
  have ha := v_any (List.range' 97 n) (fun a => !(ex a w == 0))
  have hd : sumsD n w = .tup ((List.range' 97 n).map fun a => .int (ex a w)) := rfl
  rw [den_commutator_row, e_den (by rfl) (by rfl)]
  simp only [g_commutator_row]
  by_cases hZ : Z n w
  · obtain ⟨ps, e1, e2, e3, e4⟩ := coms_ok hn.le hL.red hZ.red (red_red w) (by omega)
    refine ⟨.tup (ps.map pairD), ?_, .inr ⟨hZ, ps, rfl, e2, e3, by omega⟩⟩
    have e : ((List.range' 97 n).any fun a => !(ex a w == 0)) = false := by
      rw [List.any_eq_false]
      intro a ha
      have := (Z_iff hn.le).mp hZ a ha
      simpa using this
    rw [e] at ha
    repeat first | tb_rel | simp only [h1, h2, hd, hlc, ha, e1]
  · refine ⟨.non, ?_, .inl ⟨hZ, rfl⟩⟩
    have e : ((List.range' 97 n).any fun a => !(ex a w == 0)) = true := by
      rw [List.any_eq_true]
      refine Classical.byContradiction fun hc => hZ ((Z_iff hn.le).mpr fun a ha => ?_)
      refine Classical.byContradiction fun hx => hc ⟨a, ha, ?_⟩
      simpa using hx
    rw [e] at ha
    repeat first | tb_rel | simp only [h1, h2, hd, hlc, ha]
theorem abc_take (hn : S3 n) : ([97, 98, 99] : List Nat).take n = List.range' 97 n := by
  rcases hn with rfl | rfl | rfl <;> rfl
theorem bracket_ok {x y : List Nat} (hx : asc x = true) (hy : asc y = true) (lx : x.length ≤ 10000) (ly : y.length ≤ 10000) : den_law_bracket [sS x, sS y] = .ok (0, .str (brk x y)) [sS x, sS y] := by
  have h1 := linv_ok hx (by omega)
  have h2 := linv_ok hy (by omega)
  have a1 := v_adds (s := inv x) (z := inv y) (by rw [inv_len, inv_len]; omega)
  have a2 := v_adds (s := inv x ++ inv y) (z := x) (by rw [List.length_append, inv_len, inv_len]; omega)
  have a3 := v_adds (s := inv x ++ inv y ++ x) (z := y) (by rw [List.length_append, List.length_append, inv_len, inv_len]; omega)
  have h3 := lred_ok (w := inv x ++ inv y ++ x ++ y) (List.all_eq_true.mpr fun c hc => decide_eq_true (by
    rcases List.mem_append.mp hc with hc | hc
    · rcases List.mem_append.mp hc with hc | hc
      · rcases List.mem_append.mp hc with hc | hc
        · exact asc_mem' (asc_inv hx) hc
        · exact asc_mem' (asc_inv hy) hc
      · exact asc_mem' hx hc
    · exact asc_mem' hy hc)) (by rw [List.length_append, List.length_append, List.length_append, inv_len, inv_len]; omega)
  rw [den_law_bracket, e_den (by rfl) (by rfl)]
  simp only [g_law_bracket]
  repeat first | tb_rel | simp only [h1, h2, a1, a2, a3, h3]
  rfl
theorem brk_len (x y : List Nat) : (brk x y).length ≤ 2 * (x.length + y.length) := by
  have := red_len (inv x ++ inv y ++ x ++ y)
  unfold brk
  rw [List.length_append, List.length_append, List.length_append, inv_len, inv_len] at this
  omega
theorem brk_L {n : Nat} (hn : n ≤ 26) {x y : List Nat} (hx : Ltrs n x) (hy : Ltrs n y) : Ltrs n (brk x y) := (((hx.inv hn).app (hy.inv hn)).app hx |>.app hy).red
/-! ### the law's own look at a row -/
def rtP : Ev → R Out := (dIfS (dOr (dNot (dTest (dIsi [2] (dVar 6)))) (dTest (dOp neD (dLc (dIt (dVar 6)) (bName 9) (dTest (dOp ninD (dVar 9) (dCall den_law_signs [false] (dCons (dVar 0) dNil)))) (dVar 9) [9]) (dLstE dNil))))
        (dRet (dC (.bl false)))
        dPass)
def rtB : Ev → R Out := (dSeq (dIfS (dOr (dNot (dTest (dIsi [3] (dVar 5)))) (dTest (dOp neD (dCB lenD (dCons (dVar 5) dNil)) (dC (.int 2)))))
      (dRet (dC (.bl false)))
      dPass)
    (dSeq (dFor (dIt (dVar 5)) (bName 6) rtP)
    (dSet 4 (dCall den_law_red [false] (dCons (dOp addD (dVar 4) (dCall den_law_bracket [false, false] (dCons (dOp ixD (dVar 5) (dC (.int 0))) (dCons (dOp ixD (dVar 5) (dC (.int 1))) dNil)))) dNil)))))
section
variable {n : Nat} {s1 s2 s3 s4 s5 s6 s7 s8 : Sl}
theorem rtP_ok (hn : S3 n) {x : List Nat} (hx : Ltrs n x) (hl : x.length ≤ 24) : rtP [sI n, s1, s2, s3, s4, s5, sS x, s7, s8, .un] = .ok .nx [sI n, s1, s2, s3, s4, s5, sS x, s7, s8, .un] := by
  have hlc : lcK (bName 9) (dTest (dOp ninD (dVar 9) (dCall den_law_signs [false] (dCons (dVar 0) dNil)))) (dVar 9) [9] (x.map fun c => D.str [c]) [sI n, s1, s2, s3, s4, s5, sS x, s7, s8, .un] = .ok (.vl 1 (.lst ((x.filter fun c => !decide (c ∈ sg n)).map fun c => D.str [c]))) (restE [sI n, s1, s2, s3, s4, s5, sS x, s7, s8, .un] [9] [sI n, s1, s2, s3, s4, s5, sS x, s7, s8, .un]) :=
    lc_fil (q := fun c => D.str [c]) (g := fun c => D.str [c]) (p := fun c => !decide (c ∈ sg n)) [sI n, s1, s2, s3, s4, s5, sS x, s7, s8, .un] x (by omega) rfl fun c hc => by
      have hn1 : ninD (.str [c]) (.str (sg n)) = some (0, .bl (!decide (c ∈ sg n))) := rfl
      have hb : (!decide (c ∈ sg n)) = false := by simpa using sg_mem.mpr (hx c hc)
      refine ⟨[sI n, s1, s2, s3, s4, s5, sS x, s7, s8, sS [c]], [sI n, s1, s2, s3, s4, s5, sS x, s7, s8, sS [c]], rfl, ?_, .inr ⟨hb, rfl⟩⟩
      repeat first | tb_rel | simp only [sg_ok hn, hn1]
  have hf : (x.filter fun c => !decide (c ∈ sg n)) = [] := List.filter_eq_nil_iff.mpr fun c hc => by simpa using sg_mem.mpr (hx c hc)
  rw [hf] at hlc
  have hne : neD (.lst []) (.lst []) = some (0, .bl false) := rfl
  simp only [rtP]
  repeat first | tb_rel | simp only [hlc, hne]
theorem rtB_ok (hn : S3 n) {p : List Nat × List Nat} (hp : Ltrs n p.1 ∧ Ltrs n p.2 ∧ p.1.length ≤ 24 ∧ p.2.length ≤ 24) {f : List Nat} (hf : Ltrs n f) (lf : f.length ≤ 10000) : ∃ y6 : Sl, rtB [sI n, s1, s2, s3, sS f, .vl 0 (pairD p), s6, s7, s8, .un] = .ok .nx [sI n, s1, s2, s3, sS (red (f ++ brk p.1 p.2)), .vl 0 (pairD p), y6, s7, s8, .un] := by
  obtain ⟨h1, h2, h3, h4⟩ := hp
  have hle : (decide (2 ≤ 10000)) = true := by simp
  have hb := bracket_ok (h1.asc hn.le) (h2.asc hn.le) (by omega) (by omega)
  have hbl := brk_len p.1 p.2
  have ha := v_adds (s := f) (z := brk p.1 p.2) (by omega)
  have hr := lred_ok (w := f ++ brk p.1 p.2) ((hf.app (brk_L hn.le h1 h2)).asc hn.le) (by rw [List.length_append]; omega)
  have hx0 : ixD (.tup [.str p.1, .str p.2]) (.int 0) = some (0, .str p.1) := v_ixt (j := 0) rfl
  have hx1 : ixD (.tup [.str p.1, .str p.2]) (.int 1) = some (0, .str p.2) := v_ixt (j := 1) rfl
  have hloop : dLoop (bName 6) rtP [.str p.1, .str p.2] [sI n, s1, s2, s3, sS f, .vl 0 (pairD p), s6, s7, s8, .un] = .ok .nx [sI n, s1, s2, s3, sS f, .vl 0 (pairD p), sS p.2, s7, s8, .un] := by
    rw [e_loop (ev1 := [sI n, s1, s2, s3, sS f, .vl 0 (pairD p), sS p.1, s7, s8, .un]) (by rfl), rtP_ok hn h1 h3, e_loopN, e_loop (ev1 := [sI n, s1, s2, s3, sS f, .vl 0 (pairD p), sS p.2, s7, s8, .un]) (by rfl), rtP_ok hn h2 h4, e_loopN, e_loop0]
  simp only [pairD] at hloop
  refine ⟨sS p.2, ?_⟩
  have e22 : (!((((0 + 1 + 1 : Nat) : Int)) == 2)) = false := rfl
  simp only [rtB, pairD]
  repeat first | tb_rel | simp only [e22, hloop, hx0, hx1, hb, ha, hr]
theorem rtL_ok (hn : S3 n) : ∀ (ps : List (List Nat × List Nat)) (f : List Nat) (s5 s6 : Sl), (∀ p ∈ ps, Ltrs n p.1 ∧ Ltrs n p.2 ∧ p.1.length ≤ 24 ∧ p.2.length ≤ 24) → Ltrs n f → f.length + 96 * ps.length ≤ 10000 → ∃ y5 y6 : Sl, dLoop (bName 5) rtB (ps.map pairD) [sI n, s1, s2, s3, sS f, s5, s6, s7, s8, .un] = .ok .nx [sI n, s1, s2, s3, sS (valF f ps), y5, y6, s7, s8, .un]
  | [], f, s5, s6, _, _, _ => ⟨s5, s6, rfl⟩
  | p :: ps, f, s5, s6, hp, hf, hl => by
    have h1 := hp p (List.mem_cons_self ..)
    rw [List.length_cons] at hl
    obtain ⟨y6, e1⟩ := rtB_ok hn h1 hf (s1 := s1) (s2 := s2) (s3 := s3) (s6 := s6) (s7 := s7) (s8 := s8) (by omega)
    have hbl := brk_len p.1 p.2
    have hrl := red_len (f ++ brk p.1 p.2)
    rw [List.length_append] at hrl
    obtain ⟨y5, y6', e2⟩ := rtL_ok hn ps (red (f ++ brk p.1 p.2)) (.vl 0 (pairD p)) y6 (fun x hx => hp x (List.mem_cons_of_mem _ hx)) ((hf.app (brk_L hn.le h1.1 h1.2.1)).red) (by have := h1.2.2; omega)
    refine ⟨y5, y6', ?_⟩
    rw [List.map_cons, e_loop (ev1 := [sI n, s1, s2, s3, sS f, .vl 0 (pairD p), s6, s7, s8, .un]) (by rfl), e1, e_loopN, e2]
    rfl
end
/-- what is right: Told by more pairs, too -/
def Right (n : Nat) (w : List Nat) (d : D) : Prop := (¬ Z n w ∧ d = .non) ∨ (Z n w ∧ ∃ ps : List (List Nat × List Nat), d = .tup (ps.map pairD) ∧ valF [] ps = red w ∧ (∀ p ∈ ps, Ltrs n p.1 ∧ Ltrs n p.2 ∧ p.1.length ≤ 24 ∧ p.2.length ≤ 24) ∧ ps.length ≤ 100)
theorem Told.right {n : Nat} {w : List Nat} {d : D} (h : Told n w d) : Right n w d := by
  rcases h with h | ⟨h1, ps, h2, h3, h4, h5⟩
  · exact .inl h
  · exact .inr ⟨h1, ps, h2, h3, h4, by omega⟩
theorem right_ok {n : Nat} (hn : S3 n) {w : List Nat} {d : D} (hL : Ltrs n w) (hl : w.length ≤ 100) (h : Right n w d) : den_law_right [sI n, sS w, .vl 0 d] = .ok (0, .bl true) [sI n, sS w, .vl 0 d] := by
  have h3 := v_sls (s := [97, 98, 99]) (lo := none) (hi := some (n : Int)) (by decide)
  rw [cut_to, abc_take hn] at h3
  have hlc : lcK (bName 7) dYes (dOp subD (dBM "str" countD (dVar 1) (dCons (dVar 7) dNil)) (dBM "str" countD (dVar 1) (dCons (dBM "str" uppD (dVar 7) dNil) dNil))) [7] ((List.range' 97 n).map fun c => D.str [c]) [sI n, sS w, .vl 0 d, .un, .un, .un, .un, .un, .un, .un] = .ok (.vl 1 (.lst ((List.range' 97 n).map fun a => .int (ex a w)))) (restE [sI n, sS w, .vl 0 d, .un, .un, .un, .un, .un, .un, .un] [7] [sI n, sS w, .vl 0 d, .un, .un, .un, .un, .un, .un, .un]) :=
    lc_each (q := fun c => D.str [c]) (g := fun a => D.int (ex a w)) [sI n, sS w, .vl 0 d, .un, .un, .un, .un, .un, .un, .un] (List.range' 97 n) (by have := hn.le; simp; omega) rfl fun c hc => by
      rw [List.mem_range'_1] at hc
      have hnl := hn.le
      have h2 : c < 128 := by omega
      refine ⟨[sI n, sS w, .vl 0 d, .un, .un, .un, .un, sS [c], .un, .un], .vl 0 (.int (ex c w)), [sI n, sS w, .vl 0 d, .un, .un, .un, .un, sS [c], .un, .un], [sI n, sS w, .vl 0 d, .un, .un, .un, .un, sS [c], .un, .un], rfl, ?_, rfl, rfl⟩
      repeat first | tb_rel | simp only [upp1 h2]
      rw [up_sw (by omega)]
      rfl
  have hf : lcK (bName 8) (dTest (dOp neD (dVar 8) (dC (.int 0)))) (dVar 8) [8] ((List.range' 97 n).map fun a => D.int (ex a w)) [sI n, sS w, .vl 0 d, .vl 0 (.lst ((List.range' 97 n).map fun a => .int (ex a w))), .un, .un, .un, .un, .un, .un] = .ok (.vl 1 (.lst ((nzs n w).map fun a => D.int (ex a w)))) (restE [sI n, sS w, .vl 0 d, .vl 0 (.lst ((List.range' 97 n).map fun a => .int (ex a w))), .un, .un, .un, .un, .un, .un] [8] [sI n, sS w, .vl 0 d, .vl 0 (.lst ((List.range' 97 n).map fun a => .int (ex a w))), .un, .un, .un, .un, .un, .un]) :=
    lc_fil (q := fun a => D.int (ex a w)) (g := fun a => D.int (ex a w)) (p := fun a => !(ex a w == 0)) [sI n, sS w, .vl 0 d, .vl 0 (.lst ((List.range' 97 n).map fun a => .int (ex a w))), .un, .un, .un, .un, .un, .un] (List.range' 97 n) (by have := hn.le; simp; omega) rfl fun a _ => by
      refine ⟨[sI n, sS w, .vl 0 d, .vl 0 (.lst ((List.range' 97 n).map fun a => .int (ex a w))), .un, .un, .un, .un, sI (ex a w), .un], [sI n, sS w, .vl 0 d, .vl 0 (.lst ((List.range' 97 n).map fun a => .int (ex a w))), .un, .un, .un, .un, sI (ex a w), .un], rfl, ?_, ?_⟩
      · repeat first | tb_rel
      · cases hb : (!(ex a w == 0)) with
        | true => exact .inl ⟨rfl, .vl 0 (.int (ex a w)), _, _, rfl, rfl, rfl⟩
        | false => exact .inr ⟨rfl, rfl⟩
  have hne := ne_ints (fun a => ex a w) (nzs n w)
  have hle : (0 ≤ 10000) = True := by simp
  have hg : g_law_right = (dSeq (dSet 3 (dLc (dIt (dSl slD (dC (.str [97, 98, 99])) dNoPart (dPart (dVar 0)))) (bName 7) dYes (dOp subD (dBM "str" countD (dVar 1) (dCons (dVar 7) dNil)) (dBM "str" countD (dVar 1) (dCons (dBM "str" uppD (dVar 7) dNil) dNil))) [7]))
  (dSeq (dIfS (dTest (dOp neD (dLc (dIt (dVar 3)) (bName 8) (dTest (dOp neD (dVar 8) (dC (.int 0)))) (dVar 8) [8]) (dLstE dNil)))
    (dRet (dOp isN (dVar 2) (dC .non)))
    dPass)
  (dSeq (dIfS (dNot (dTest (dIsi [3] (dVar 2))))
    (dRet (dC (.bl false)))
    dPass)
  (dSeq (dSet 4 (dC (.str [])))
  (dSeq (dFor (dIt (dVar 2)) (bName 5) rtB)
  (dRet (dOp eqD (dVar 4) (dCall den_law_red [false] (dCons (dVar 1) dNil))))))))) := rfl
  rw [den_law_right, e_den (by rfl) (by rfl), hg]
  rcases h with ⟨hZ, rfl⟩ | ⟨hZ, ps, rfl, hv, hp, hpl⟩
  · have e : (!(nzs n w).isEmpty) = true := by
      cases hh : (nzs n w).isEmpty with
      | false => rfl
      | true => exact absurd ((nzs_Z hn.le).mp hh) hZ
    repeat first | tb_rel | simp only [h3, hlc, hf, hne, e, hle]
  · have e : (!(nzs n w).isEmpty) = false := by rw [(nzs_Z hn.le).mpr hZ]; rfl
    obtain ⟨y5, y6, hloop⟩ := rtL_ok hn (s1 := sS w) (s2 := .vl 0 (.tup (ps.map pairD))) (s3 := .vl 0 (.lst ((List.range' 97 n).map fun a => .int (ex a w)))) (s7 := .un) (s8 := .un) ps [] .un .un hp (fun _ h => by cases h) (by simp; omega)
    have hr := lred_ok (hL.asc hn.le) (by omega)
    repeat first | tb_rel | simp only [h3, hlc, hf, hne, e, hle, hloop, hr, hv, beq_self_eq_true]
theorem commutator_ok {n : Nat} (hn : S3 n) {x y : List Nat} (hx : Ltrs n x) (hy : Ltrs n y) (lx : x.length ≤ 100) (ly : y.length ≤ 100) : den_commutator [sI n, sS x, sS y] = .ok (0, .str (brk x y)) [sI n, sS x, sS y] := by
  have h1 := checked_word_ok hn.sz hx (by omega)
  have h2 := check_word_ok hn.le hy (by omega)
  have rl := red_len x
  have ax := asc_red (hx.asc hn.le)
  have ay := hy.asc hn.le
  have i1 := inverse_of_ok ax (by omega)
  have i2 := inverse_of_ok ay (by omega)
  have a1 := v_adds (s := inv (red x)) (z := inv y) (by rw [inv_len, inv_len]; omega)
  have a2 := v_adds (s := inv (red x) ++ inv y) (z := red x) (by rw [List.length_append, inv_len, inv_len]; omega)
  have a3 := v_adds (s := inv (red x) ++ inv y ++ red x) (z := y) (by rw [List.length_append, List.length_append, inv_len, inv_len]; omega)
  have h3 := reduced_of_ok (w := inv (red x) ++ inv y ++ red x ++ y) (List.all_eq_true.mpr fun c hc => decide_eq_true (by
    rcases List.mem_append.mp hc with hc | hc
    · rcases List.mem_append.mp hc with hc | hc
      · rcases List.mem_append.mp hc with hc | hc
        · exact asc_mem' (asc_inv ax) hc
        · exact asc_mem' (asc_inv ay) hc
      · exact asc_mem' ax hc
    · exact asc_mem' ay hc)) (by rw [List.length_append, List.length_append, List.length_append, inv_len, inv_len]; omega)
  have e : red (inv (red x) ++ inv y ++ red x ++ y) = brk x y := ((((eqv_red x).inv.app (.refl (inv y))).app (eqv_red x)).app (.refl y)).red
  rw [e] at h3
  have hc : den_commutator_of [sS (red x), sS y] = .ok (0, .str (brk x y)) [sS (red x), sS y] := by
    rw [den_commutator_of, e_den (by rfl) (by rfl)]
    simp only [g_commutator_of]
    repeat first | tb_rel | simp only [i1, i2, a1, a2, a3, h3]
  rw [den_commutator, e_den (by rfl) (by rfl)]
  simp only [g_commutator]
  repeat first | tb_rel | simp only [h1, h2, hc]
end LawPlain

set_option Elab.async false
set_option linter.all false
set_option maxRecDepth 100000
set_option maxHeartbeats 2000000
namespace LawPlain
open DN L2 Wf LawWalk
local macro_rules | `(tactic| tb_rel) => `(tactic| simp only [e_seq, e_seqN, e_seqR, e_seqB, e_seqC, e_pass, e_brk, e_cnt, e_drop, e_dropK, e_ret, e_retK, e_retN, e_set, setK, e_asg, asgK, e_par, parK, R.bind_ok, R.bind_exc, R.bind_bad, e_var, e_varK0, e_varK1, e_varKi, e_c, e_un, unK, e_op, e_opK, opK2, e_nil, e_cons, e_consK, e_consK2, e_cb, cbK, e_bm, e_bmKs, bmK2, e_noPart, e_part, partK, e_sl, e_slK, e_slK1, slK2, e_test, testK, e_and, e_andT, e_andF, e_or, e_orT, e_orF, e_not, e_notK, e_if, e_ifT, e_ifF, e_ifS, e_andV, e_andVT, e_andVF, e_orV, e_orVT, e_orVF, e_notV, e_notVK, e_chain, e_chK, e_chM, e_chMb, e_opv, e_ch3T, e_ch3F, e_isi, isiK, e_tup, tupK, e_lst, lstK, e_call, e_callK, e_callL, e_callK2, e_appA, e_appAK, e_appAK2, e_callKw, e_kwK, e_kwL, e_kwK2, e_aug, e_augL, augK, e_app, e_appL, appK, e_setI, e_setIK, e_setIL, setIK2, e_augI, e_augIL, e_augIK, e_augIR, e_augI0, e_augI1, augI2, e_for, e_forK, e_wh, e_whT, e_whF, e_whN, e_whC, e_whX, e_whR, e_popI, e_popIL, e_par2, par2K, own1, e_it, itK, e_rng1, rng1K, e_rng2, rng2K, e_lc, e_yes, passN, pass1, fz1, fzs, backN, back1, rds, e_rd0, e_rd1, e_rda, e_rdS0, e_rdS1, e_rdS2, e_rdS3, Sl.o1, Sl.re, fins, fin1, argOk, bName, bNil, bCons, bTup, out_some, out_none, e_finN, e_finR, List.getElem?_cons_zero, List.getElem?_cons_succ, List.getElem?_nil, List.set_cons_zero, List.set_cons_succ, List.length_cons, List.length_nil, List.cons_append, List.nil_append, List.append_nil, List.replicate_succ, List.replicate_zero, Option.map_some, Option.map_none, Option.bind_some, pick_cons, pick_nil', List.map_cons, List.map_nil, List.any_cons, List.any_nil, isC, Bool.not_true, Bool.not_false, Bool.or_false, Bool.or_true, Bool.true_or, Bool.false_or, Nat.reduceAdd, Nat.reduceSub, Nat.reduceLT, Nat.reduceLeDiff, Nat.reduceEqDiff, reduceIte, and_self, if_true, ite_true, true_and, and_true, Nat.zero_add, List.length_map, Nat.lt_add_left_iff_pos, Nat.zero_lt_succ, v_add, v_sub, v_neg, v_iadd, v_lt, v_gt, v_le, v_ge, v_eqi, v_eqs, v_eqb, v_nei, v_nes, v_neb, v_isn, v_notn, v_int, v_abs, v_lenl, v_lenf, v_lent, v_tupl, v_tupt, v_listl, v_listf, v_listt, v_revl, v_sll, v_slt, v_in1, v_cnt, isnB, restE, wipeE, frzS])
open PyProof.Rows (lo1 up1)
theorem er_map {α β : Type} (f : α → β) : ∀ (l : List α) (j : Nat), (l.map f).eraseIdx j = (l.eraseIdx j).map f
  | [], j => by simp
  | x :: l, 0 => rfl
  | x :: l, j + 1 => by
    show f x :: (l.map f).eraseIdx j = f x :: (l.eraseIdx j).map f
    rw [er_map f l j]
def drA : Ev → R Out := (dSeq (dSet 5 (dOp ixD (dC (.str [97, 98, 99])) (dCall den_law_take [true, false] (dCons (dVar 0) (dCons (dVar 1) dNil)))))
    (dSet 3 (dOp addD (dVar 3) (dLstE (dCons (dVar 5) (dCons (dBM "str" uppD (dVar 5) dNil) dNil))))))
def drP : Ev → R Out := (dSet 7 (dOp addD (dVar 7) (dPopI 6 (dCall den_law_take [true, false] (dCons (dVar 0) (dCons (dCB lenD (dCons (dVar 6) dNil)) dNil))))))
section
variable {n : Nat} {s2 s4 s5 s6 s7 s8 : Sl}
theorem drA_ok (hn : S3 n) (p : Pot) {l : List Nat} (hl : l.length ≤ 10000) : ∃ (p' : Pot) (a b : Nat) (y : Sl), drA [pS p, sI n, s2, .vl 1 (.lst (sgs l)), s4, s5, s6, s7, s8] = .ok .nx [pS p', sI n, s2, .vl 1 (.lst (sgs (l ++ [a, b]))), s4, y, s6, s7, s8] ∧ Ltr n a ∧ Ltr n b := by
  obtain ⟨r, p1, h1, h2, h3⟩ := take_ok p (m := (n : Int)) (by have := hn.sz.1; have := hn.le; omega)
  obtain ⟨j, hj⟩ := Int.eq_ofNat_of_zero_le h2
  have hj3 : j < n := by omega
  have hn3 : n ≤ 3 := by unfold S3 at hn; omega
  have hix : ixD (.str [97, 98, 99]) (.int r) = some (0, .str [97 + j]) := by
    rw [hj]
    have : j = 0 ∨ j = 1 ∨ j = 2 := by omega
    rcases this with rfl | rfl | rfl
    · exact v_ixs (j := 0) (by decide) rfl
    · exact v_ixs (j := 1) (by decide) rfl
    · exact v_ixs (j := 2) (by decide) rfl
  have hu := upp1 (c := 97 + j) (by omega)
  have hup : up1 (97 + j) = 65 + j := by unfold up1; rw [if_pos (by omega)]; omega
  rw [hup] at hu
  have hle : (2 ≤ 10000) = True := by simp
  have ha := v_addl (xs := sgs l) (ys := [.str [97 + j], .str [65 + j]]) (by simp [sgs]; omega)
  have e : sgs l ++ [.str [97 + j], .str [65 + j]] = sgs (l ++ [97 + j, 65 + j]) := by simp [sgs]
  rw [e] at ha
  refine ⟨p1, 97 + j, 65 + j, sS [97 + j], ?_, .inl (by omega), .inr (by omega)⟩
  simp only [drA]
  repeat first | tb_rel | simp only [h1, hix, hu, hle, ha]
theorem drAL (hn : S3 n) : ∀ (k : List Nat) (p : Pot) (l : List Nat) (s4 s5 : Sl), Ltrs n l → l.length + 2 * k.length ≤ 10000 → ∃ (p' : Pot) (l' : List Nat) (y4 y5 : Sl), dLoop (bName 4) drA (k.map fun (i : Nat) => D.int (0 + (i : Int))) [pS p, sI n, s2, .vl 1 (.lst (sgs l)), s4, s5, s6, s7, s8] = .ok .nx [pS p', sI n, s2, .vl 1 (.lst (sgs l')), y4, y5, s6, s7, s8] ∧ Ltrs n l' ∧ l'.length = l.length + 2 * k.length
  | [], p, l, s4, s5, h1, _ => ⟨p, l, s4, s5, rfl, h1, rfl⟩
  | i :: k, p, l, s4, s5, h1, h2 => by
    rw [List.length_cons] at h2
    obtain ⟨p1, a, b, y, e1, ha, hb⟩ := drA_ok hn p (l := l) (s2 := s2) (s4 := sI (0 + (i : Int))) (s5 := s5) (s6 := s6) (s7 := s7) (s8 := s8) (by omega)
    obtain ⟨p', l', y4, y5, e2, e3, e4⟩ := drAL hn k p1 (l ++ [a, b]) (sI (0 + (i : Int))) y (h1.app fun x hx => by
      rcases List.mem_cons.mp hx with rfl | hx
      · exact ha
      · rw [List.mem_singleton.mp hx]; exact hb) (by rw [List.length_append]; simp; omega)
    refine ⟨p', l', y4, y5, ?_, e3, by rw [e4, List.length_append]; simp; omega⟩
    rw [List.map_cons, e_loop (ev1 := [pS p, sI n, s2, .vl 1 (.lst (sgs l)), sI (0 + (i : Int)), s5, s6, s7, s8]) (by rfl), e1, e_loopN, e2]
theorem drP_ok (p : Pot) {s1 s3 : Sl} {l f : List Nat} (h0 : 0 < l.length) (hl : l.length ≤ 10000) (hf : f.length ≤ 10000) : ∃ (p' : Pot) (c : Nat) (l' : List Nat), drP [pS p, s1, s2, s3, s4, s5, .vl 1 (.lst (sgs l)), sS f, s8] = .ok .nx [pS p', s1, s2, s3, s4, s5, .vl 1 (.lst (sgs l')), sS (f ++ [c]), s8] ∧ c ∈ l ∧ (∀ x ∈ l', x ∈ l) ∧ l'.length + 1 = l.length := by
  obtain ⟨r, p1, h1, h2, h3⟩ := take_ok p (m := (((sgs l).length : Nat) : Int)) (by simp [sgs]; omega)
  obtain ⟨j, hj⟩ := Int.eq_ofNat_of_zero_le h2
  have hjl : j < l.length := by simp [sgs] at h3; omega
  have hx : (sgs l)[j]? = some (.str [l[j]]) := by unfold sgs; rw [List.getElem?_map, List.getElem?_eq_getElem hjl]; rfl
  have hp : popIK 6 (.vl 0 (.int r)) [pS p1, s1, s2, s3, s4, s5, .vl 1 (.lst (sgs l)), sS f, s8] = .ok (.vl 0 (.str [l[j]])) [pS p1, s1, s2, s3, s4, s5, .vl 1 (.lst (sgs (l.eraseIdx j))), sS f, s8] := by
    rw [hj, e_popIK (j := j) (s := .vl 1 (.lst (sgs l))) (ds := sgs l) (d := .str [l[j]]) rfl rfl rfl hx (by omega)]
    have : (sgs l).eraseIdx j = sgs (l.eraseIdx j) := by unfold sgs; rw [er_map]
    rw [this]
    rfl
  have ha := v_adds (s := f) (z := [l[j]]) (by simp only [List.length_cons, List.length_nil]; omega)
  refine ⟨p1, l[j], l.eraseIdx j, ?_, List.getElem_mem hjl, fun x hx => (List.eraseIdx_sublist l j).subset hx, by rw [List.length_eraseIdx, if_pos hjl]; omega⟩
  simp only [drP]
  repeat first | tb_rel | simp only [h1, hp, ha]
theorem drPL {s1 s3 : Sl} : ∀ (k : List Nat) (p : Pot) (l f : List Nat) (s4 : Sl), k.length = l.length → l.length + f.length ≤ 10000 → Ltrs n l → Ltrs n f → ∃ (p' : Pot) (f' : List Nat) (y4 y6 : Sl), dLoop (bName 4) drP (k.map fun (i : Nat) => D.int (0 + (i : Int))) [pS p, s1, s2, s3, s4, s5, .vl 1 (.lst (sgs l)), sS f, s8] = .ok .nx [pS p', s1, s2, s3, y4, s5, y6, sS f', s8] ∧ Ltrs n f' ∧ f'.length = f.length + l.length
  | [], p, l, f, s4, hk, _, _, hf => ⟨p, f, s4, _, rfl, hf, by have := hk; simp at this; omega⟩
  | i :: k, p, l, f, s4, hk, hlf, hL, hf => by
    rw [List.length_cons] at hk
    obtain ⟨p1, c, l', e1, hc, hs, hl'⟩ := drP_ok p (s1 := s1) (s2 := s2) (s3 := s3) (s4 := sI (0 + (i : Int))) (s5 := s5) (s8 := s8) (l := l) (f := f) (by omega) (by omega) (by omega)
    obtain ⟨p', f', y4, y6, e2, e3, e4⟩ := drPL k p1 l' (f ++ [c]) (sI (0 + (i : Int))) (by omega) (by simp; omega) (hL.sub hs) (hf.app fun x hx => by rw [List.mem_singleton.mp hx]; exact hL c hc)
    refine ⟨p', f', y4, y6, ?_, e3, by rw [e4]; simp; omega⟩
    rw [List.map_cons, e_loop (ev1 := [pS p, s1, s2, s3, sI (0 + (i : Int)), s5, .vl 1 (.lst (sgs l)), sS f, s8]) (by rfl), e1, e_loopN, e2]
end
def drB : Ev → R Out := (dIfS (dAnd (dTest (dOp eqD (dVar 2) (dC (.int 1)))) (dTest (dOp gtD (dCB lenD (dCons (dVar 7) dNil)) (dC (.int 0)))))
    (dSeq (dSet 8 (dCall den_law_take [true, false] (dCons (dVar 0) (dCons (dCB lenD (dCons (dVar 7) dNil)) dNil))))
    (dSet 7 (dOp addD (dOp addD (dSl slD (dVar 7) dNoPart (dPart (dVar 8))) (dOp ixD (dCall den_law_signs [false] (dCons (dVar 1) dNil)) (dCall den_law_take [true, false] (dCons (dVar 0) (dCons (dOp mulD (dC (.int 2)) (dVar 1)) dNil))))) (dSl slD (dVar 7) (dPart (dOp addD (dVar 8) (dC (.int 1)))) dNoPart))))
    dPass)
theorem drB_ok {n : Nat} (hn : S3 n) (p : Pot) {way : Int} {s3 s4 s5 s6 s8 : Sl} {f : List Nat} (hf : Ltrs n f) (lf : f.length ≤ 24) : ∃ (p' : Pot) (f' : List Nat) (y : Sl), drB [pS p, sI n, sI way, s3, s4, s5, s6, sS f, s8] = .ok .nx [pS p', sI n, sI way, s3, s4, s5, s6, sS f', y] ∧ Ltrs n f' ∧ f'.length ≤ 24 := by
  have hlen := v_lens (s := f) (by omega)
  by_cases hw : way = 1 ∧ 0 < f.length
  · have e1 : (way == 1) = true := by simpa using hw.1
    have e2 : decide ((0 : Int) < (f.length : Int)) = true := decide_eq_true (by have := hw.2; omega)
    obtain ⟨r, p1, h1, h2, h3⟩ := take_ok p (m := (f.length : Int)) (by have := hw.2; omega)
    obtain ⟨j, hj⟩ := Int.eq_ofNat_of_zero_le h2
    rw [hj] at h1
    obtain ⟨r2, p2, g1, g2, g3⟩ := take_ok p1 (m := 2 * (n : Int)) (by have := hn.sz.1; have := hn.le; omega)
    obtain ⟨c, g4, g5⟩ := pick_sg hn.sz ⟨g2, g3⟩
    have s1 := v_sls (s := f) (lo := none) (hi := some (j : Int)) (by omega)
    have s2 := v_sls (s := f) (lo := some ((j + 1 : Nat) : Int)) (hi := none) (by omega)
    rw [cut_to] at s1
    rw [cut_from] at s2
    have e3 : ((j : Int) + 1) = ((j + 1 : Nat) : Int) := by omega
    have hjl : j < f.length := by omega
    have ht : (f.take j).length = j := by rw [List.length_take]; omega
    have hd : (f.drop (j + 1)).length = f.length - (j + 1) := List.length_drop
    have a1 := v_adds (s := f.take j) (z := [c]) (by simp only [List.length_cons, List.length_nil]; omega)
    have a2 := v_adds (s := f.take j ++ [c]) (z := f.drop (j + 1)) (by simp only [List.length_append, List.length_cons, List.length_nil]; omega)
    refine ⟨p2, f.take j ++ [c] ++ f.drop (j + 1), sI j, ?_, fun x hx => ?_, by simp only [List.length_append, List.length_cons, List.length_nil]; omega⟩
    · simp only [drB]
      repeat first | tb_rel | simp only [e1, e2, hlen, h1, mul2, g1, sg_ok hn, g4, s1, e3, s2, a1, a2]
    · rcases List.mem_append.mp hx with hx | hx
      · rcases List.mem_append.mp hx with hx | hx
        · exact hf x (List.mem_of_mem_take hx)
        · rw [List.mem_singleton.mp hx]; exact g5
      · exact hf x (List.mem_of_mem_drop hx)
  · refine ⟨p, f, s8, ?_, hf, lf⟩
    by_cases h1 : way = 1
    · have e1 : (way == 1) = true := by simpa using h1
      have e2 : decide ((0 : Int) < (f.length : Int)) = false := decide_eq_false (fun h => hw ⟨h1, by omega⟩)
      simp only [drB]
      repeat first | tb_rel | simp only [e1, e2, hlen]
    · have e1 : (way == 1) = false := by simpa using h1
      simp only [drB]
      repeat first | tb_rel | simp only [e1]
theorem drawn_ok {n : Nat} (hn : S3 n) (p : Pot) : ∃ (p' : Pot) (w : List Nat), den_law_drawn [pS p, sI n] = .ok (0, .str w) [pS p', sI n] ∧ Ltrs n w ∧ w.length ≤ 24 := by
  rw [den_law_drawn, e_den (by rfl) (by rfl)]
  obtain ⟨r, p1, h1, h2, h3⟩ := take_ok p (m := 4) (by decide)
  have hg : g_law_drawn = (dSeq (dSet 2 (dCall den_law_take [true, false] (dCons (dVar 0) (dCons (dC (.int 4)) dNil))))
  (dSeq (dIfS (dTest (dOp eqD (dVar 2) (dC (.int 0))))
    (dRet (dCall den_law_loose [true, false, false] (dCons (dVar 0) (dCons (dVar 1) (dCons (dCall den_law_take [true, false] (dCons (dVar 0) (dCons (dC (.int 25)) dNil))) dNil)))))
    dPass)
  (dSeq (dSet 3 (dLstE dNil))
  (dSeq (dFor (dRng1 (dCons (dCall den_law_take [true, false] (dCons (dVar 0) (dCons (dC (.int 13)) dNil))) dNil)) (bName 4) drA)
  (dSeq (dPar2 6 7 (dCons (dCB listD (dCons (dVar 3) dNil)) (dCons (dC (.str [])) dNil)))
  (dSeq (dFor (dRng1 (dCons (dCB lenD (dCons (dVar 3) dNil)) dNil)) (bName 4) drP)
  (dSeq drB
  (dRet (dVar 7))))))))) := rfl
  rw [hg]
  by_cases h0 : r = 0
  · have e : (r == 0) = true := by simpa using h0
    obtain ⟨r2, p2, g1, g2, g3⟩ := take_ok p1 (m := 25) (by decide)
    obtain ⟨k, hk⟩ := Int.eq_ofNat_of_zero_le g2
    rw [hk] at g1
    obtain ⟨p', w, f1, f2, f3⟩ := loose_ok hn (k := k) (by omega) p2
    refine ⟨p', w, ?_, f3, by omega⟩
    repeat first | tb_rel | simp only [h1, e, g1, f1]
  · have e : (r == 0) = false := by simpa using h0
    obtain ⟨r2, p2, g1, g2, g3⟩ := take_ok p1 (m := 13) (by decide)
    obtain ⟨k, hk⟩ := Int.eq_ofNat_of_zero_le g2
    rw [hk] at g1
    obtain ⟨p3, l, y4, y5, a1, a2, a3⟩ := drAL hn (s2 := sI r) (s6 := .un) (s7 := .un) (s8 := .un) (List.range k) p2 [] .un .un (fun _ h => by cases h) (by simp; omega)
    have a1 : dLoop (bName 4) drA (intsFrom 0 k) [pS p2, sI n, sI r, .vl 1 (.lst []), .un, .un, .un, .un, .un] = .ok .nx [pS p3, sI n, sI r, .vl 1 (.lst (sgs l)), y4, y5, .un, .un, .un] := a1
    have la : l.length ≤ 24 := by simp at a3; omega
    obtain ⟨p4, f, z4, z6, b1, b2, b3⟩ := drPL (n := n) (s1 := sI n) (s2 := sI r) (s3 := .vl 1 (.lst (sgs l))) (s5 := y5) (s8 := .un) (List.range l.length) p3 l [] y4 (by simp) (by simp; omega) a2 (fun _ h => by cases h)
    have b1 : dLoop (bName 4) drP (intsFrom 0 l.length) [pS p3, sI n, sI r, .vl 1 (.lst (sgs l)), y4, y5, .vl 1 (.lst (sgs l)), sS [], .un] = .ok .nx [pS p4, sI n, sI r, .vl 1 (.lst (sgs l)), z4, y5, z6, sS f, .un] := b1
    obtain ⟨p5, f', y, c1, c2, c3⟩ := drB_ok hn p4 (way := r) (s3 := .vl 1 (.lst (sgs l))) (s4 := z4) (s5 := y5) (s6 := z6) (s8 := .un) b2 (by simp at b3; omega)
    have hll : (sgs l).length = l.length := by simp [sgs]
    have hle : (0 ≤ 10000) = True := by simp
    refine ⟨p5, f', ?_, c2, c3⟩
    repeat first | tb_rel | simp only [h1, e, g1, hle, rng_ok (show k ≤ 1000000 by omega), Int.toNat_natCast, a1, hll, rng_ok (show l.length ≤ 1000000 by omega), b1, c1]
end LawPlain

set_option Elab.async false
set_option linter.all false
set_option maxRecDepth 100000
set_option maxHeartbeats 2000000
namespace LawPlain
open DN L2 Wf LawWalk
local macro_rules | `(tactic| tb_rel) => `(tactic| simp only [e_seq, e_seqN, e_seqR, e_seqB, e_seqC, e_pass, e_brk, e_cnt, e_drop, e_dropK, e_ret, e_retK, e_retN, e_set, setK, e_asg, asgK, e_par, parK, R.bind_ok, R.bind_exc, R.bind_bad, e_var, e_varK0, e_varK1, e_varKi, e_c, e_un, unK, e_op, e_opK, opK2, e_nil, e_cons, e_consK, e_consK2, e_cb, cbK, e_bm, e_bmKs, bmK2, e_noPart, e_part, partK, e_sl, e_slK, e_slK1, slK2, e_test, testK, e_and, e_andT, e_andF, e_or, e_orT, e_orF, e_not, e_notK, e_if, e_ifT, e_ifF, e_ifS, e_andV, e_andVT, e_andVF, e_orV, e_orVT, e_orVF, e_notV, e_notVK, e_chain, e_chK, e_chM, e_chMb, e_opv, e_ch3T, e_ch3F, e_isi, isiK, e_tup, tupK, e_lst, lstK, e_call, e_callK, e_callL, e_callK2, e_appA, e_appAK, e_appAK2, e_callKw, e_kwK, e_kwL, e_kwK2, e_aug, e_augL, augK, e_app, e_appL, appK, e_setI, e_setIK, e_setIL, setIK2, e_augI, e_augIL, e_augIK, e_augIR, e_augI0, e_augI1, augI2, e_for, e_forK, e_wh, e_whT, e_whF, e_whN, e_whC, e_whX, e_whR, e_popI, e_popIL, e_par2, par2K, own1, e_it, itK, e_rng1, rng1K, e_rng2, rng2K, e_lc, e_yes, passN, pass1, fz1, fzs, backN, back1, rds, e_rd0, e_rd1, e_rda, e_rdS0, e_rdS1, e_rdS2, e_rdS3, Sl.o1, Sl.re, fins, fin1, argOk, bName, bNil, bCons, bTup, out_some, out_none, e_finN, e_finR, List.getElem?_cons_zero, List.getElem?_cons_succ, List.getElem?_nil, List.set_cons_zero, List.set_cons_succ, List.length_cons, List.length_nil, List.cons_append, List.nil_append, List.append_nil, List.replicate_succ, List.replicate_zero, Option.map_some, Option.map_none, Option.bind_some, pick_cons, pick_nil', List.map_cons, List.map_nil, List.any_cons, List.any_nil, isC, Bool.not_true, Bool.not_false, Bool.or_false, Bool.or_true, Bool.true_or, Bool.false_or, Nat.reduceAdd, Nat.reduceSub, Nat.reduceLT, Nat.reduceLeDiff, Nat.reduceEqDiff, reduceIte, and_self, if_true, ite_true, true_and, and_true, Nat.zero_add, List.length_map, Nat.lt_add_left_iff_pos, Nat.zero_lt_succ, v_add, v_sub, v_neg, v_iadd, v_lt, v_gt, v_le, v_ge, v_eqi, v_eqs, v_eqb, v_nei, v_nes, v_neb, v_isn, v_notn, v_int, v_abs, v_lenl, v_lenf, v_lent, v_tupl, v_tupt, v_listl, v_listf, v_listt, v_revl, v_sll, v_slt, v_in1, v_cnt, isnB, restE, wipeE, frzS])
def b1 : Ev → R Out := (dSet 1 (dOp addD (dLstE (dCons (dC (.int 0)) (dCons (dC (.int 61)) (dCons (dC (.int 3)) dNil)))) (dCB listD (dCons (dVar 0) dNil))))
def b3 : Ev → R Out := (dSet 3 (dOp addD (dC (.int 1)) (dCall den_law_take [true, false] (dCons (dVar 1) (dCons (dC (.int 3)) dNil)))))
def b4 : Ev → R Out := (dPar 4 5 (dCons (dCall den_law_drawn [true, false] (dCons (dVar 1) (dCons (dVar 3) dNil))) (dCons (dCall den_law_drawn [true, false] (dCons (dVar 1) (dCons (dVar 3) dNil))) dNil)))
def b5 : Ev → R Out := (dPar 6 7 (dCons (dCall den_commutator_row [false, false] (dCons (dVar 3) (dCons (dVar 4) dNil))) (dCons (dCallK den_commutator_row [1, 0] (dAppA 0 2 dNil (dCons (dVar 5) (dCons (dVar 3) dNil)))) dNil)))
def b6 : Ev → R Out := (dIfS (dOr (dNot (dTest (dCall den_law_right [false, false, false] (dCons (dVar 3) (dCons (dVar 4) (dCons (dVar 6) dNil)))))) (dNot (dTest (dCall den_law_right [false, false, false] (dCons (dVar 3) (dCons (dVar 5) (dCons (dVar 7) dNil))))))) (dRet (dC (.bl false))) dPass)
def b7 : Ev → R Out := (dIfS (dTest (dOp neD (dOp isN (dVar 6) (dC .non)) (dOp neD (dLc (dIt (dCall den_sums [false, false] (dCons (dVar 3) (dCons (dVar 4) dNil)))) (bName 11) (dTest (dOp neD (dVar 11) (dC (.int 0)))) (dVar 11) [11]) (dLstE dNil)))) (dRet (dC (.bl false))) dPass)
def b8 : Ev → R Out := (dSet 8 (dCall den_product [false, false] (dCons (dVar 3) (dCons (dTupE (dCons (dVar 4) (dCons (dVar 5) dNil))) dNil))))
def b9 : Ev → R Out := (dIfS (dAnd (dTest (dOp ltD (dCB lenD (dCons (dVar 8) dNil)) (dC (.int 25)))) (dNot (dTest (dCall den_law_right [false, false, false] (dCons (dVar 3) (dCons (dVar 8) (dCons (dCall den_commutator_row [false, false] (dCons (dVar 3) (dCons (dVar 8) dNil))) dNil))))))) (dRet (dC (.bl false))) dPass)
def b10 : Ev → R Out := (dIfS (dAnd (dTest (dOp notN (dVar 6) (dC .non))) (dTest (dOp notN (dVar 7) (dC .non)))) (dSeq (dIfS (dNot (dTest (dCall den_law_right [false, false, false] (dCons (dVar 3) (dCons (dOp addD (dVar 4) (dVar 5)) (dCons (dOp addD (dVar 6) (dVar 7)) dNil)))))) (dRet (dC (.bl false))) dPass) (dIfS (dAnd (dTest (dOp neD (dVar 6) (dTupE dNil))) (dAnd (dTest (dOp ltD (dCB max2D (dCons (dCB lenD (dCons (dOp ixD (dOp ixD (dVar 6) (dC (.int 0))) (dC (.int 0))) dNil)) (dCons (dCB lenD (dCons (dOp ixD (dOp ixD (dVar 6) (dC (.int 0))) (dC (.int 1))) dNil)) dNil))) (dC (.int 25)))) (dNot (dTest (dCall (den_law_same 8) [false, false] (dCons (dCall den_commutator [false, false, false] (dCons (dVar 3) (dCons (dOp ixD (dOp ixD (dVar 6) (dC (.int 0))) (dC (.int 0))) (dCons (dOp ixD (dOp ixD (dVar 6) (dC (.int 0))) (dC (.int 1))) dNil)))) (dCons (dCall den_law_bracket [false, false] (dCons (dOp ixD (dOp ixD (dVar 6) (dC (.int 0))) (dC (.int 0))) (dCons (dOp ixD (dOp ixD (dVar 6) (dC (.int 0))) (dC (.int 1))) dNil))) dNil))))))) (dRet (dC (.bl false))) dPass)) dPass)
def b11 : Ev → R Out := (dSet 9 (dCall den_law_tight [true, false, false] (dCons (dVar 1) (dCons (dVar 3) (dCons (dCall den_law_take [true, false] (dCons (dVar 1) (dCons (dC (.int 4)) dNil))) dNil)))))
def b13 : Ev → R Out := (dIfS (dAnd (dTest (dOp ltD (dCB lenD (dCons (dVar 10) dNil)) (dC (.int 25)))) (dNot (dTest (dCall den_law_right [false, false, false] (dCons (dVar 3) (dCons (dVar 10) (dCons (dCall den_commutator_row [false, false] (dCons (dVar 3) (dCons (dVar 10) dNil))) dNil))))))) (dRet (dC (.bl false))) dPass)
def bB14 : Ev → R Out := (dSeq b3 (dSeq b4 (dSeq b5 (dSeq b6 (dSeq b7 (dSeq b8 (dSeq b9 (dSeq b10 (dSeq b11 (dFor (dIt (dTupE (dCons (dCall den_law_inv [false] (dCons (dVar 4) dNil)) (dCons (dCall den_law_red [false] (dCons (dOp addD (dOp addD (dCall den_law_inv [false] (dCons (dVar 9) dNil)) (dVar 4)) (dVar 9)) dNil)) (dCons (dCall den_law_red [false] (dCons (dVar 4) dNil)) (dCons (dC (.str [])) (dCons (dC (.str [97, 65])) dNil))))))) (bName 10) b13))))))))))
def b15 : Ev → R Out := (dRet (dC (.bl true)))
def bB16 : Ev → R Out := (dSeq b1 (dSeq (dFor (dRng1 (dCons (dC (.int 9)) dNil)) (bName 2) bB14) b15))
theorem b_eq : g_law = bB16 := rfl
open PyProof.Rows (lo1 up1)
abbrev vP (p : Pot) : Sl := .vl 1 p.d
theorem b1_ok (ns : List Int) (hns : ns.length ≤ 63) : ∃ p : Pot, b1 (scr ns :: List.replicate 11 .un) = .ok .nx (scr ns :: vP p :: List.replicate 10 .un) := by
  refine ⟨⟨0, 61, 0, ns, by decide, by decide, Nat.zero_le _⟩, ?_⟩
  have hle : (3 ≤ 10000) = True := by simp
  have ha := v_addl (xs := [.int 0, .int 61, .int 3]) (ys := ns.map D.int) (by simp; omega)
  simp only [b1, scr]
  repeat first | tb_rel | simp only [hle, ha]
  rfl
theorem okE_str {s : List Nat} (h : asc s = true) : okE (.str s) = true := List.all_eq_true.mpr fun c hc => decide_eq_true (by have := asc_mem' h hc; omega)
theorem okEs_pairs : ∀ {ps : List (List Nat × List Nat)}, (∀ p ∈ ps, asc p.1 = true ∧ asc p.2 = true) → okEs (ps.map pairD) = true
  | [], _ => rfl
  | p :: ps, h => by
    obtain ⟨h1, h2⟩ := h p (List.mem_cons_self ..)
    show ((okE (.str p.1) && (okE (.str p.2) && true)) && okEs (ps.map pairD)) = true
    rw [okE_str h1, okE_str h2, okEs_pairs fun x hx => h x (List.mem_cons_of_mem _ hx)]
    rfl
theorem deps_pairs : ∀ ps : List (List Nat × List Nat), deps (ps.map pairD) ≤ 1
  | [] => Nat.zero_le _
  | p :: ps => by
    show max (max 0 (max 0 0) + 1) (deps (ps.map pairD)) ≤ 1
    have := deps_pairs ps
    omega
theorem ne_pairs {ps : List (List Nat × List Nat)} (h : ∀ p ∈ ps, asc p.1 = true ∧ asc p.2 = true) : neD (.tup (ps.map pairD)) (.tup []) = some (0, .bl (!ps.isEmpty)) := by
  unfold neD
  have hc : canEq (.tup (ps.map pairD)) (.tup []) = true := by
    show (false || (okEs (ps.map pairD) && true && decide (deps (ps.map pairD) + 1 ≤ 64) && decide (0 + 1 ≤ 64))) = true
    rw [okEs_pairs h, decide_eq_true (show deps (ps.map pairD) + 1 ≤ 64 by have := deps_pairs ps; omega)]
    rfl
  rw [if_pos hc]
  cases ps <;> rfl
theorem two_flat (w o : List Nat) : [w, o].flatten = w ++ o := by simp
theorem body_ok (p : Pot) {sc tu s3 s4 s5 s6 s7 s8 s9 s10 : Sl} : ∃ (p' : Pot) (t3 t4 t5 t6 t7 t8 t9 t10 : Sl), bB14 [sc, vP p, tu, s3, s4, s5, s6, s7, s8, s9, s10, .un] = .ok .nx [sc, vP p', tu, t3, t4, t5, t6, t7, t8, t9, t10, .un] := by
  -- size
  obtain ⟨r, p1, h1, h2, h3⟩ := take_ok p (m := 3) (by decide)
  obtain ⟨j, hj⟩ := Int.eq_ofNat_of_zero_le h2
  have en : 1 + r = ((j + 1 : Nat) : Int) := by omega
  have hn : S3 (j + 1) := by unfold S3; omega
  generalize hnn : j + 1 = n at en hn
  have e3 : b3 [sc, vP p, tu, s3, s4, s5, s6, s7, s8, s9, s10, .un] = .ok .nx [sc, vP p1, tu, sI n, s4, s5, s6, s7, s8, s9, s10, .un] := by
    simp only [b3]
    repeat first | tb_rel | simp only [h1, en]
  -- words
  obtain ⟨p2, w, d1, hw, lw⟩ := drawn_ok hn p1
  obtain ⟨p3, o, d2, ho, l_o⟩ := drawn_ok hn p2
  have e4 : b4 [sc, vP p1, tu, sI n, s4, s5, s6, s7, s8, s9, s10, .un] = .ok .nx [sc, vP p3, tu, sI n, sS w, sS o, s6, s7, s8, s9, s10, .un] := by
    simp only [b4]
    repeat first | tb_rel | simp only [d1, d2]
  -- rows
  obtain ⟨t, r1, ht⟩ := row_ok hn hw lw
  obtain ⟨u, r2, hu⟩ := row_ok hn ho l_o
  have e5 : b5 [sc, vP p3, tu, sI n, sS w, sS o, s6, s7, s8, s9, s10, .un] = .ok .nx [sc, vP p3, tu, sI n, sS w, sS o, .vl 0 t, .vl 0 u, s8, s9, s10, .un] := by
    simp only [b5]
    repeat first | tb_rel | simp only [r1, r2]
  have q1 := right_ok hn hw (by omega) ht.right
  have q2 := right_ok hn ho (by omega) hu.right
  have e6 : b6 [sc, vP p3, tu, sI n, sS w, sS o, .vl 0 t, .vl 0 u, s8, s9, s10, .un] = .ok .nx [sc, vP p3, tu, sI n, sS w, sS o, .vl 0 t, .vl 0 u, s8, s9, s10, .un] := by
    simp only [b6]
    repeat first | tb_rel | simp only [q1, q2]
  -- None just if a sum is left
  have hsums := sums_ok hn.sz hw (by omega)
  have hsd : sumsD n w = .tup ((List.range' 97 n).map fun a => .int (ex a w)) := rfl
  have hf : lcK (bName 11) (dTest (dOp neD (dVar 11) (dC (.int 0)))) (dVar 11) [11] ((List.range' 97 n).map fun a => D.int (ex a w)) [sc, vP p3, tu, sI n, sS w, sS o, .vl 0 t, .vl 0 u, s8, s9, s10, .un] = .ok (.vl 1 (.lst ((nzs n w).map fun a => D.int (ex a w)))) (restE [sc, vP p3, tu, sI n, sS w, sS o, .vl 0 t, .vl 0 u, s8, s9, s10, .un] [11] [sc, vP p3, tu, sI n, sS w, sS o, .vl 0 t, .vl 0 u, s8, s9, s10, .un]) :=
    lc_fil (q := fun a => D.int (ex a w)) (g := fun a => D.int (ex a w)) (p := fun a => !(ex a w == 0)) [sc, vP p3, tu, sI n, sS w, sS o, .vl 0 t, .vl 0 u, s8, s9, s10, .un] (List.range' 97 n) (by have := hn.le; simp; omega) rfl fun a _ => by
      refine ⟨[sc, vP p3, tu, sI n, sS w, sS o, .vl 0 t, .vl 0 u, s8, s9, s10, sI (ex a w)], [sc, vP p3, tu, sI n, sS w, sS o, .vl 0 t, .vl 0 u, s8, s9, s10, sI (ex a w)], rfl, ?_, ?_⟩
      · repeat first | tb_rel
      · cases hb : (!(ex a w == 0)) with
        | true => exact .inl ⟨rfl, .vl 0 (.int (ex a w)), _, _, rfl, rfl, rfl⟩
        | false => exact .inr ⟨rfl, rfl⟩
  have hne := ne_ints (fun a => ex a w) (nzs n w)
  have hle0 : (0 ≤ 10000) = True := by simp
  have e7 : b7 [sc, vP p3, tu, sI n, sS w, sS o, .vl 0 t, .vl 0 u, s8, s9, s10, .un] = .ok .nx [sc, vP p3, tu, sI n, sS w, sS o, .vl 0 t, .vl 0 u, s8, s9, s10, .un] := by
    simp only [b7]
    rcases ht with ⟨hZ, rfl⟩ | ⟨hZ, ps, rfl, _⟩
    · have hx : (nzs n w).isEmpty = false := by
        cases hh : (nzs n w).isEmpty with
        | false => rfl
        | true => exact absurd ((nzs_Z hn.le).mp hh) hZ
      rw [hx] at hne
      have hb : (!(true == (!false))) = false := rfl
      repeat first | tb_rel | simp only [hsums, hsd, hf, hne, hb, hle0, beq_self_eq_true]
    · have hx := (nzs_Z hn.le).mpr hZ
      rw [hx] at hne
      repeat first | tb_rel | simp only [hsums, hsd, hf, hne, hle0, beq_self_eq_true]
  -- both
  have hpr := product_ok hn.sz (ws := [w, o]) (fun x hx => by
    rcases List.mem_cons.mp hx with rfl | hx
    · exact ⟨hw, by omega⟩
    · rw [List.mem_singleton.mp hx]; exact ⟨ho, by omega⟩) (by simp) (by simp; omega)
  rw [two_flat] at hpr
  have hpr : den_product [sI n, .vl 0 (.tup [.str w, .str o])] = .ok (0, .str (red (w ++ o))) [sI n, .vl 0 (.tup [.str w, .str o])] := hpr
  have hle2 : (2 ≤ 10000) = True := by simp
  have e8 : b8 [sc, vP p3, tu, sI n, sS w, sS o, .vl 0 t, .vl 0 u, s8, s9, s10, .un] = .ok .nx [sc, vP p3, tu, sI n, sS w, sS o, .vl 0 t, .vl 0 u, sS (red (w ++ o)), s9, s10, .un] := by
    simp only [b8]
    repeat first | tb_rel | simp only [hpr, hle2]
  have hbl := red_len (w ++ o)
  rw [List.length_append] at hbl
  have hlb := v_lens (s := red (w ++ o)) (by omega)
  have e9 : b9 [sc, vP p3, tu, sI n, sS w, sS o, .vl 0 t, .vl 0 u, sS (red (w ++ o)), s9, s10, .un] = .ok .nx [sc, vP p3, tu, sI n, sS w, sS o, .vl 0 t, .vl 0 u, sS (red (w ++ o)), s9, s10, .un] := by
    simp only [b9]
    by_cases h25 : (red (w ++ o)).length < 25
    · have e : decide (((red (w ++ o)).length : Int) < 25) = true := decide_eq_true (by omega)
      obtain ⟨x, x1, x2⟩ := row_ok hn (hw.app ho).red (w := red (w ++ o)) (by omega)
      have x3 := right_ok hn (hw.app ho).red (by omega) x2.right
      repeat first | tb_rel | simp only [hlb, e, x1, x3]
    · have e : decide (((red (w ++ o)).length : Int) < 25) = false := decide_eq_false (by omega)
      repeat first | tb_rel | simp only [hlb, e]
  have e10 : b10 [sc, vP p3, tu, sI n, sS w, sS o, .vl 0 t, .vl 0 u, sS (red (w ++ o)), s9, s10, .un] = .ok .nx [sc, vP p3, tu, sI n, sS w, sS o, .vl 0 t, .vl 0 u, sS (red (w ++ o)), s9, s10, .un] := by
    simp only [b10]
    rcases ht with ⟨hZ, rfl⟩ | ⟨hZ, ps, rfl, hv, hp, hpl⟩
    · repeat first | tb_rel
    · rcases hu with ⟨hZ2, rfl⟩ | ⟨hZ2, qs, rfl, hv2, hq, hql⟩
      · repeat first | tb_rel
      · have ha := v_adds (s := w) (z := o) (by omega)
        have ht2 := v_addt (xs := ps.map pairD) (ys := qs.map pairD) (by simp; omega)
        rw [← List.map_append] at ht2
        have hR : Right n (w ++ o) (.tup ((ps ++ qs).map pairD)) := by
          refine .inr ⟨hZ.app hZ2, ps ++ qs, rfl, ?_, fun x hx => ?_, by rw [List.length_append]; omega⟩
          · have h5 := valF_from qs (valF [] ps)
            have h6 : red (valF (valF [] ps) qs) = valF (valF [] ps) qs := by
              rcases List.eq_nil_or_concat qs with hh | ⟨q1, q, hh⟩
              · rw [hh]; show red (valF [] ps) = valF [] ps; rw [hv, red_idem]
              · rw [hh, List.concat_eq_append, valF_snoc, red_idem]
            rw [valF_app, ← h6, h5, hv, hv2, red_l, red_r]
          · rcases List.mem_append.mp hx with hx | hx
            · exact hp x hx
            · exact hq x hx
        have q3 := right_ok hn (hw.app ho) (by rw [List.length_append]; omega) hR
        have hnp := ne_pairs (ps := ps) fun x hx => ⟨(hp x hx).1.asc hn.le, (hp x hx).2.1.asc hn.le⟩
        cases ps with
        | nil =>
          have e : (!([] : List (List Nat × List Nat)).isEmpty) = false := rfl
          rw [e] at hnp
          simp only [List.map_nil, List.nil_append] at ht2 q3 hnp
          repeat first | tb_rel | simp only [ha, ht2, q3, hnp, hle0]
        | cons c ps =>
          obtain ⟨c1, c2, c3, c4⟩ := hp c (List.mem_cons_self ..)
          have e : (!(c :: ps).isEmpty) = true := rfl
          rw [e] at hnp
          have i0 : ixD (.tup (List.map pairD (c :: ps))) (.int 0) = some (0, .tup [.str c.1, .str c.2]) := v_ixt (j := 0) rfl
          simp only [List.map_cons, List.cons_append] at ht2 q3 hnp i0
          have i1 : ixD (.tup [.str c.1, .str c.2]) (.int 0) = some (0, .str c.1) := v_ixt (j := 0) rfl
          have i2 : ixD (.tup [.str c.1, .str c.2]) (.int 1) = some (0, .str c.2) := v_ixt (j := 1) rfl
          have l1 := v_lens (s := c.1) (by omega)
          have l2 := v_lens (s := c.2) (by omega)
          have k1 := commutator_ok hn c1 c2 (by omega) (by omega)
          have k2 := bracket_ok (c1.asc hn.le) (c2.asc hn.le) (by omega) (by omega)
          have k3 := same_ok 8 (.str (brk c.1 c.2)) (by show 0 < 8; decide) rfl
          have hmx : max2D [.int (c.1.length : Int), .int (c.2.length : Int)] = some (0, .int (if (c.2.length : Int) > (c.1.length : Int) then (c.2.length : Int) else (c.1.length : Int))) := rfl
          have h25 : decide ((if (c.2.length : Int) > (c.1.length : Int) then (c.2.length : Int) else (c.1.length : Int)) < 25) = true := decide_eq_true (by split <;> omega)
          repeat first | tb_rel | simp only [ha, ht2, q3, hnp, hle0, i0, i1, i2, l1, l2, hmx, h25, k1, k2, k3]
  -- turned
  obtain ⟨z, p4, z1, z2, z3⟩ := take_ok p3 (m := 4) (by decide)
  obtain ⟨k, hk⟩ := Int.eq_ofNat_of_zero_le z2
  rw [hk] at z1
  obtain ⟨p5, v, v1, v2, v3, v4⟩ := tight_ok hn (k := k) (by omega) p4
  have e11 : b11 [sc, vP p3, tu, sI n, sS w, sS o, .vl 0 t, .vl 0 u, sS (red (w ++ o)), s9, s10, .un] = .ok .nx [sc, vP p5, tu, sI n, sS w, sS o, .vl 0 t, .vl 0 u, sS (red (w ++ o)), sS v, s10, .un] := by
    simp only [b11]
    repeat first | tb_rel | simp only [z1, v1]
  have each : ∀ (x : List Nat), Ltrs n x → x.length ≤ 100 → b13 [sc, vP p5, tu, sI n, sS w, sS o, .vl 0 t, .vl 0 u, sS (red (w ++ o)), sS v, sS x, .un] = .ok .nx [sc, vP p5, tu, sI n, sS w, sS o, .vl 0 t, .vl 0 u, sS (red (w ++ o)), sS v, sS x, .un] := fun x hx lx => by
    have hlx := v_lens (s := x) (by omega)
    simp only [b13]
    by_cases h25 : x.length < 25
    · have e : decide ((x.length : Int) < 25) = true := decide_eq_true (by omega)
      obtain ⟨y, x1, x2⟩ := row_ok hn hx (by omega)
      have x3 := right_ok hn hx (by omega) x2.right
      repeat first | tb_rel | simp only [hlx, e, x1, x3]
    · have e : decide ((x.length : Int) < 25) = false := decide_eq_false (by omega)
      repeat first | tb_rel | simp only [hlx, e]
  have eL : ∀ (l : List (List Nat)) (s10 : Sl), (∀ x ∈ l, Ltrs n x ∧ x.length ≤ 100) → ∃ y, dLoop (bName 10) b13 (l.map fun x => D.str x) [sc, vP p5, tu, sI n, sS w, sS o, .vl 0 t, .vl 0 u, sS (red (w ++ o)), sS v, s10, .un] = .ok .nx [sc, vP p5, tu, sI n, sS w, sS o, .vl 0 t, .vl 0 u, sS (red (w ++ o)), sS v, y, .un] := by
    intro l
    induction l with
    | nil => intro s10 _; exact ⟨s10, rfl⟩
    | cons x l ih =>
      intro s10 h
      obtain ⟨y, e⟩ := ih (sS x) fun z hz => h z (List.mem_cons_of_mem _ hz)
      refine ⟨y, ?_⟩
      obtain ⟨g1, g2⟩ := h x (List.mem_cons_self ..)
      rw [List.map_cons, e_loop (ev1 := [sc, vP p5, tu, sI n, sS w, sS o, .vl 0 t, .vl 0 u, sS (red (w ++ o)), sS v, sS x, .un]) (by rfl), each x g1 g2, e_loopN, e]
  have aw := hw.asc hn.le
  have i1 := linv_ok aw (by omega)
  have i2 := linv_ok (v3.asc hn.le) (by omega)
  have a1 := v_adds (s := inv v) (z := w) (by rw [inv_len]; omega)
  have a2 := v_adds (s := inv v ++ w) (z := v) (by rw [List.length_append, inv_len]; omega)
  have hL2 : Ltrs n (inv v ++ w ++ v) := ((v3.inv hn.le).app hw).app v3
  have rr := lred_ok (hL2.asc hn.le) (by rw [List.length_append, List.length_append, inv_len]; omega)
  have rw' := lred_ok aw (by omega)
  have hrl := red_len (inv v ++ w ++ v)
  rw [List.length_append, List.length_append, inv_len] at hrl
  obtain ⟨y, e12⟩ := eL [inv w, red (inv v ++ w ++ v), red w, [], [97, 65]] s10 (by
    intro x hx
    simp only [List.mem_cons, List.not_mem_nil, or_false] at hx
    rcases hx with rfl | rfl | rfl | rfl | rfl
    · exact ⟨hw.inv hn.le, by rw [inv_len]; omega⟩
    · exact ⟨hL2.red, by omega⟩
    · exact ⟨hw.red, by have := red_len w; omega⟩
    · exact ⟨fun _ h => (by cases h), by simp⟩
    · refine ⟨fun x hx => ?_, by simp⟩
      have hn1 := hn.sz.1
      rcases List.mem_cons.mp hx with rfl | hx
      · exact .inl (by omega)
      · rw [List.mem_singleton.mp hx]; exact .inr (by omega))
  simp only [List.map_cons, List.map_nil] at e12
  have hle5 : (5 ≤ 10000) = True := by simp
  refine ⟨p5, sI n, sS w, sS o, .vl 0 t, .vl 0 u, sS (red (w ++ o)), sS v, y, ?_⟩
  simp only [bB14, e_seq, e3, R.bind_ok, e_seqN, e4, e5, e6, e7, e8, e9, e10, e11]
  repeat first | tb_rel | simp only [i1, i2, a1, a2, rr, rw', hle5, e12]
theorem lawL {sc : Sl} : ∀ (l : List Nat) (p : Pot) (t2 t3 t4 t5 t6 t7 t8 t9 t10 : Sl), ∃ ev, dLoop (bName 2) bB14 (l.map fun (i : Nat) => D.int (0 + (i : Int))) [sc, vP p, t2, t3, t4, t5, t6, t7, t8, t9, t10, .un] = .ok .nx ev
  | [], p, t2, t3, t4, t5, t6, t7, t8, t9, t10 => ⟨_, rfl⟩
  | i :: l, p, t2, t3, t4, t5, t6, t7, t8, t9, t10 => by
    obtain ⟨p', u3, u4, u5, u6, u7, u8, u9, u10, e⟩ := body_ok p (sc := sc) (tu := sI (0 + (i : Int))) (s3 := t3) (s4 := t4) (s5 := t5) (s6 := t6) (s7 := t7) (s8 := t8) (s9 := t9) (s10 := t10)
    obtain ⟨ev, e2⟩ := lawL (sc := sc) l p' (sI (0 + (i : Int))) u3 u4 u5 u6 u7 u8 u9 u10
    refine ⟨ev, ?_⟩
    rw [List.map_cons, e_loop (ev1 := [sc, vP p, sI (0 + (i : Int)), t3, t4, t5, t6, t7, t8, t9, t10, .un]) (by rfl), e, e_loopN, e2]
theorem law_true : LawTrue den_law := by
  intro ns hns
  obtain ⟨p, e1⟩ := b1_ok ns hns
  obtain ⟨ev, e2⟩ := lawL (sc := scr ns) (List.range 9) p .un .un .un .un .un .un .un .un .un
  have e2 : dLoop (bName 2) bB14 (intsFrom 0 9) (scr ns :: vP p :: List.replicate 10 .un) = .ok .nx ev := e2
  have hr : (-1000000 ≤ (9 : Int) ∧ (9 : Int) ≤ 1000000) = True := eq_true (by decide)
  have ht : (9 : Int).toNat = 9 := rfl
  refine ⟨fins [scr ns] ev, ?_⟩
  rw [den_law, e_den (by rfl) (by rfl), b_eq]
  have e1 : b1 ([scr ns] ++ List.replicate (12 - 1) .un) = .ok .nx (scr ns :: vP p :: List.replicate 10 .un) := e1
  simp only [bB16, e_seq, e1, R.bind_ok, e_seqN, e_for, e_rng1, e_cons, e_c, e_consK, e_nil, e_consK2, rng1K, rds, e_rd0, hr, if_true, ht, e_forK, e2, b15, e_ret, e_retK, e_finR]
end LawPlain

set_option Elab.async false
set_option linter.all false
set_option maxRecDepth 100000
set_option maxHeartbeats 0
namespace LawEnd
open PySem PySem.Spec PyProof.Rows L2 LawHead DN LawWalk
theorem env_of {h : Heap} {K : PySem.W.Frag} {mg : Str → Option Value} (X : K.In h) (G : h.Ns mainGlobals mg) (c : He.SaysD fa fn K) : FEnv K mg where
  glo_is_integer := He.glo_ok X G (c.fact 5 (f := .glo "is_integer") rfl)
  fun_is_integer := c.def_ 0 (d := d_is_integer) rfl
  glo_is_size := He.glo_ok X G (c.fact 6 (f := .glo "is_size") rfl)
  fun_is_size := c.def_ 1 (d := d_is_size) rfl
  glo_check_size := He.glo_ok X G (c.fact 7 (f := .glo "check_size") rfl)
  fun_check_size := c.def_ 2 (d := d_check_size) rfl
  glo_is_word_of := He.glo_ok X G (c.fact 8 (f := .glo "is_word_of") rfl)
  fun_is_word_of := c.def_ 3 (d := d_is_word_of) rfl
  glo_are_words_of := He.glo_ok X G (c.fact 10 (f := .glo "are_words_of") rfl)
  fun_are_words_of := c.def_ 5 (d := d_are_words_of) rfl
  glo_check_words := He.glo_ok X G (c.fact 11 (f := .glo "check_words") rfl)
  fun_check_words := c.def_ 6 (d := d_check_words) rfl
  glo_reduced_of := He.glo_ok X G (c.fact 13 (f := .glo "reduced_of") rfl)
  fun_reduced_of := c.def_ 8 (d := d_reduced_of) rfl
  glo_product := He.glo_ok X G (c.fact 16 (f := .glo "product") rfl)
  fun_product := c.def_ 11 (d := d_product) rfl
  glo_law_signs := He.glo_ok X G (c.fact 27 (f := .glo "_law_signs") rfl)
  fun_law_signs := c.def_ 22 (d := d_law_signs) rfl
  glo_law_take := He.glo_ok X G (c.fact 22 (f := .glo "_law_take") rfl)
  fun_law_take := c.def_ 17 (d := d_law_take) rfl
  glo_law_back := He.glo_ok X G (c.fact 24 (f := .glo "_law_back") rfl)
  fun_law_back := c.def_ 19 (d := d_law_back) rfl
  glo_law_tight := He.glo_ok X G (c.fact 30 (f := .glo "_law_tight") rfl)
  fun_law_tight := c.def_ 25 (d := d_law_tight) rfl
  glo_law_loose := He.glo_ok X G (c.fact 29 (f := .glo "_law_loose") rfl)
  fun_law_loose := c.def_ 24 (d := d_law_loose) rfl
  glo_law_drawn := He.glo_ok X G (c.fact 34 (f := .glo "_law_drawn") rfl)
  fun_law_drawn := c.def_ 29 (d := d_law_drawn) rfl
  glo_check_word := He.glo_ok X G (c.fact 9 (f := .glo "check_word") rfl)
  fun_check_word := c.def_ 4 (d := d_check_word) rfl
  glo_checked_word := He.glo_ok X G (c.fact 15 (f := .glo "checked_word") rfl)
  fun_checked_word := c.def_ 10 (d := d_checked_word) rfl
  glo_inverse_of := He.glo_ok X G (c.fact 12 (f := .glo "inverse_of") rfl)
  fun_inverse_of := c.def_ 7 (d := d_inverse_of) rfl
  glo_commutators_of := He.glo_ok X G (c.fact 19 (f := .glo "commutators_of") rfl)
  fun_commutators_of := c.def_ 14 (d := d_commutators_of) rfl
  glo_sums_of := He.glo_ok X G (c.fact 14 (f := .glo "sums_of") rfl)
  fun_sums_of := c.def_ 9 (d := d_sums_of) rfl
  glo_commutator_row := He.glo_ok X G (c.fact 21 (f := .glo "commutator_row") rfl)
  fun_commutator_row := c.def_ 16 (d := d_commutator_row) rfl
  glo_law_inv := He.glo_ok X G (c.fact 25 (f := .glo "_law_inv") rfl)
  fun_law_inv := c.def_ 20 (d := d_law_inv) rfl
  glo_law_red := He.glo_ok X G (c.fact 26 (f := .glo "_law_red") rfl)
  fun_law_red := c.def_ 21 (d := d_law_red) rfl
  glo_law_bracket := He.glo_ok X G (c.fact 32 (f := .glo "_law_bracket") rfl)
  fun_law_bracket := c.def_ 27 (d := d_law_bracket) rfl
  glo_law_right := He.glo_ok X G (c.fact 33 (f := .glo "_law_right") rfl)
  fun_law_right := c.def_ 28 (d := d_law_right) rfl
  glo_law_same := He.glo_ok X G (c.fact 23 (f := .glo "_law_same") rfl)
  fun_law_same := c.def_ 18 (d := d_law_same) rfl
  glo_sums := He.glo_ok X G (c.fact 17 (f := .glo "sums") rfl)
  fun_sums := c.def_ 12 (d := d_sums) rfl
  glo_commutator_of := He.glo_ok X G (c.fact 18 (f := .glo "commutator_of") rfl)
  fun_commutator_of := c.def_ 13 (d := d_commutator_of) rfl
  glo_commutator := He.glo_ok X G (c.fact 20 (f := .glo "commutator") rfl)
  fun_commutator := c.def_ 15 (d := d_commutator) rfl
  glo_law := He.glo_ok X G (c.fact 35 (f := .glo "law") rfl)
  fun_law := c.def_ 30 (d := d_law) rfl
  fr_ValueError := He.free_ok X G (c.fact 36 (f := .free "ValueError") rfl)
  fr_tuple := He.free_ok X G (c.fact 37 (f := .free "tuple") rfl)
  fr_any := He.free_ok X G (c.fact 38 (f := .free "any") rfl)
  fr_isinstance := He.free_ok X G (c.fact 39 (f := .free "isinstance") rfl)
  fr_int := He.free_ok X G (c.fact 40 (f := .free "int") rfl)
  fr_range := He.free_ok X G (c.fact 41 (f := .free "range") rfl)
  fr_str := He.free_ok X G (c.fact 42 (f := .free "str") rfl)
  fr_all := He.free_ok X G (c.fact 43 (f := .free "all") rfl)
  fr_bool := He.free_ok X G (c.fact 44 (f := .free "bool") rfl)
  fr_len := He.free_ok X G (c.fact 45 (f := .free "len") rfl)
  fr_list := He.free_ok X G (c.fact 46 (f := .free "list") rfl)
  fr_max := He.free_ok X G (c.fact 47 (f := .free "max") rfl)
  str_ALPHABET := He.str_ok X G (c.fact 4 (f := .str "ALPHABET" "abcdefghijklmnopqrstuvwxyz") rfl)
theorem facts {P : Program} {w : World} {K : PySem.W.Frag} {h : Heap} {mg : Str → Option Value} {f : Addr} (X : K.In h) (G : h.Ns mainGlobals mg) (hfa : mg ("law" : Str) = some (.ref f)) (c : He.SaysD fa fn K) :
    ∃ fd : FuncData, (∀ (s : Shared) (v : Value), BindsTo s fd ⟨[v], []⟩ [("script", v)]) ∧ ∀ base : Heap, K.In base → base.Ns mainGlobals mg → FnOk P w K mg base CX0 10 f fd ["script"] (spD K XM.off den_law) := by
  have V := env_of X G c
  obtain ⟨fd0, F0⟩ := c.def_ 30 (d := d_law) rfl
  have b := FunD.bindsA (ps := ["script"]) F0 bd_law
  have key : ∀ base : Heap, ∃ fd, FunD K "law" "law" (defArgs s_law) (defBody s_law) (defScope s_law) [] [] f fd ∧ FnOk P w K mg base CX0 10 f fd ["script"] (spD K XM.off den_law) := fun base => by
    obtain ⟨f', fd, hm, F, ok⟩ := ok_law (P := P) (w := w) (base := base) V
    cases hfa.symm.trans hm
    exact ⟨fd, F, ok⟩
  have e := hfa.symm.trans V.glo_law
  cases e
  refine ⟨fd0, fun s v => b s [v] rfl, fun base _ _ => ?_⟩
  obtain ⟨fd, F, ok⟩ := key base
  have : fd = fd0 := by
    obtain ⟨_, _, _, _, _, _, _, _, _, _, _, l1, _⟩ := F.ex
    obtain ⟨_, _, _, _, _, _, _, _, _, _, _, l2, _⟩ := F0.ex
    have := l1.symm.trans l2
    cases this
    rfl
  rw [← this]
  exact ok
end LawEnd
open PySem PySem.W PySem.Calls PyProof.Rows
theorem PySem.Challenge.cw_wholefree_k46_whole_rows_of_commutators_holds : PySem.Challenge.rw_wholefree_k46_whole_rows_of_commutators.Holds := by
  w_on; o_law
  refine HandSHeadRun.head_any (r := OpenLaw.row PySem.Challenge.rw_wholefree_k46_whole_rows_of_commutators) (q := view (OpenLaw.row PySem.Challenge.rw_wholefree_k46_whole_rows_of_commutators).prog [40]) (H := LawHead.hk) (ob := LawHead.ob) (M := 6000) (loose := LawHead.loose) (d := HandSHeadRun.topDef (OpenLaw.row PySem.Challenge.rw_wholefree_k46_whole_rows_of_commutators).prog 40) (kwd := []) LawHead.ob_eq
    (by kernel_rfl) (fun s => by kernel_rfl) LawHead.run (by kernel_rfl) (by kernel_rfl) (by kernel_rfl) (by rfl) (by first | assumption | decide +kernel) (by decide +kernel) ⟨rfl, rfl, rfl, rfl, rfl, by decide +kernel⟩ ?hw ?hc
  case hw => w_witness2
  case hc =>
    refine L2.walk_ofE (l := PySem.Challenge.rw_wholefree_k46_whole_rows_of_commutators) (n := 63) (k := 10) (x := "script") (CX := L2.CX0) rfl (by decide) (by kernel_rfl) ⟨rfl, by decide, by decide⟩ ?F (fun _ _ _ _ z => z)
    intro w mg fa h Y G hmg0
    obtain ⟨K, KX, c⟩ := Y
    have hmg : mg ("law" : PySem.Str) = some (.ref fa) := by
      have e : (HandSHeadRun.topDef (OpenLaw.row PySem.Challenge.rw_wholefree_k46_whole_rows_of_commutators).prog 40).name = ("law" : PySem.Str) := by kernel_rfl
      rw [← e]
      exact hmg0
    obtain ⟨fd, hb, hF⟩ := LawEnd.facts (P := (PySem.Challenge.rw_wholefree_k46_whole_rows_of_commutators).prog) (w := w) KX G hmg c
    exact ⟨K, fd, DN.spD K DN.XM.off LawWalk.den_law, KX, hb, fun H a ns hl _ hS => DN.law_spD LawPlain.law_true hl hS _, hF⟩

