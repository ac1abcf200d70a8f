import PyProof.Rows.All
import Wide.All
import OpenK.AllK
import Wide.FinOn
import PyProof.EqAt
import PyProof.EqKinds
import PyProof.TupleCall
import HandS.ForMost
import HandS.ForExc
import HandS.IsInst
import HandS.Zip
import HandS.Star
import HandS.Defaults
import HandS.SortInts
import HandS.Conv
import HandS.Flt
import KE.GoesMore
import PySem.Challenge.RW_fewleaps_k79_whole_how_many
import HandS.EndBits
set_option Elab.async false
set_option linter.all false
set_option maxRecDepth 100000
set_option maxHeartbeats 2000000
namespace DL
open PySem PySem.Spec L2

/-! ### values as data -/
inductive D where
  | non | bl (b : Bool) | int (i : Int) | str (x : Str)
  | tup (xs : List D) | lst (xs : List D)
  | scr (ns : List Int)
  | ref (n : Nat)
  | ty (n : String)
/-- an object that may change -/
inductive Ob where
  | lst (xs : List D)
  | ins (C : Addr) (fs : List (Str × D))
abbrev Sto := List Ob
/-- an exception: its class, its fields -/
structure Exn where
  cls : Addr
  fs : List (Str × D)
inductive Res (α : Type) where
  | ok (a : α) (S : Sto)
  | ex (x : Exn) (S : Sto)
  | stuck
def Res.bind {α β : Type} (r : Res α) (f : α → Sto → Res β) : Res β := match r with
  | .ok a S => f a S
  | .ex x S => .ex x S
  | .stuck => .stuck
@[simp] theorem Res.bind_ok {α β : Type} (a : α) (S : Sto) (f : α → Sto → Res β) : (Res.ok a S).bind f = f a S := rfl
@[simp] theorem Res.bind_ex {α β : Type} (x : Exn) (S : Sto) (f : α → Sto → Res β) : (Res.ex x S).bind f = Res.ex x S := rfl
@[simp] theorem Res.bind_stuck {α β : Type} (f : α → Sto → Res β) : (Res.stuck : Res α).bind f = Res.stuck := rfl
/-- a value that may be lacking -/
def lift {α : Type} (o : Option α) (S : Sto) : Res α := match o with
  | some a => .ok a S
  | none => .stuck
@[simp] theorem lift_some {α : Type} (a : α) (S : Sto) : lift (some a) S = .ok a S := rfl
@[simp] theorem lift_none {α : Type} (S : Sto) : lift (none : Option α) S = .stuck := rfl

inductive Slot where
  | no
  | dat (d : D)
  | own (ds : List D)
abbrev Ev := List Slot
inductive Fl where
  | nx (e : Ev) | rt (d : D) | bk (e : Ev) | ct (e : Ev) | xx (e : Ev) (x : Exn)
abbrev GE := Ev → Sto → Res D
abbrev GT := Ev → Sto → Res Bool
abbrev GA := Ev → Sto → Res (List D)
abbrev GS := Ev → Sto → Res Fl

/-! ### what represents what -/
/-- a tuple: a tracked one, or one of the module's -/
def TupR (K : PySem.W.Frag) (F : Hp) (a : Addr) (xs : List V) : Prop := F a = some (.tup xs) ∨
  ∃ (o : Obj) (its : Array Value) (n : Nat), K.lookup a = some o ∧ o.cls = .type "tuple" ∧ o.data = .seq its n ∧ its.size ≤ sizeLine ∧ Vals xs its.toList
section
variable (K : PySem.W.Frag) (α : List Addr) (F : Hp)
mutual
def Rep : D → V → Prop
  | .non, v => v = .non
  | .bl b, v => v = .bl b
  | .int i, v => v = .int i
  | .str x, v => v = .str x
  | .tup ds, v => ∃ a vs, v = .ref a ∧ TupR K F a vs ∧ Reps ds vs
  | .lst ds, v => ∃ a vs, v = .ref a ∧ F a = some (.lst vs) ∧ Reps ds vs
  | .scr ns, v => ∃ a, v = .ref a ∧ SqL K F a (ns.map V.int)
  | .ref n, v => ∃ a, α[n]? = some a ∧ v = .ref a
  | .ty n, v => v = .ty n
def Reps : List D → List V → Prop
  | [], vs => vs = []
  | d :: ds, vs => ∃ v r, vs = v :: r ∧ Rep d v ∧ Reps ds r
end
end
section
variable {K : PySem.W.Frag} {α α' : List Addr} {F F' : Hp}
theorem TupR.up {a : Addr} {vs : List V} (h : TupR K F a vs) (hs : ∀ a o, F a = some o → F' a = some o) : TupR K F' a vs := by
  rcases h with h | h
  · exact .inl (hs _ _ h)
  · exact .inr h
theorem SqT.up {a : Addr} {vs : List V} (h : TupR K F a vs) (hs : ∀ a o, F a = some o → F' a = some o) : SqT K F' a vs := by
  rcases h with h | h
  · exact .inl (.inl (hs _ _ h))
  · exact .inr h
theorem SqL.up {a : Addr} {vs : List V} (h : SqL K F a vs) (hs : ∀ a o, F a = some o → F' a = some o) : SqL K F' a vs := by
  rcases h with h | h
  · rcases h with h | ⟨o, h⟩
    · exact .inl (.inl (hs _ _ h))
    · exact .inl (.inr ⟨o, hs _ _ h⟩)
  · exact .inr h
mutual
theorem Rep.up (hs : ∀ a o, F a = some o → F' a = some o) (hp : ∀ (i : Nat) (a : Addr), α[i]? = some a → α'[i]? = some a) : ∀ {d : D} {v : V}, Rep K α F d v → Rep K α' F' d v
  | .non, _, h => h
  | .bl _, _, h => h
  | .int _, _, h => h
  | .str _, _, h => h
  | .tup ds, _, h => by
    obtain ⟨a, vs, e, q, r⟩ := h
    exact ⟨a, vs, e, TupR.up q hs, Reps.up hs hp r⟩
  | .lst ds, _, h => by
    obtain ⟨a, vs, e, q, r⟩ := h
    exact ⟨a, vs, e, hs _ _ q, Reps.up hs hp r⟩
  | .scr ns, _, h => by
    obtain ⟨a, e, q⟩ := h
    exact ⟨a, e, SqL.up q hs⟩
  | .ref n, _, h => by
    obtain ⟨a, e, q⟩ := h
    exact ⟨a, hp _ _ e, q⟩
  | .ty _, _, h => h
theorem Reps.up (hs : ∀ a o, F a = some o → F' a = some o) (hp : ∀ (i : Nat) (a : Addr), α[i]? = some a → α'[i]? = some a) : ∀ {ds : List D} {vs : List V}, Reps K α F ds vs → Reps K α' F' ds vs
  | [], _, h => h
  | d :: ds, _, h => by
    obtain ⟨v, r, e, h1, h2⟩ := h
    exact ⟨v, r, e, Rep.up hs hp h1, Reps.up hs hp h2⟩
end
theorem Reps.nil : Reps K α F [] [] := rfl
theorem Reps.cons {d : D} {ds : List D} {v : V} {vs : List V} (h : Rep K α F d v) (r : Reps K α F ds vs) : Reps K α F (d :: ds) (v :: vs) := ⟨v, vs, rfl, h, r⟩
theorem Reps.length : ∀ {ds : List D} {vs : List V}, Reps K α F ds vs → ds.length = vs.length
  | [], _, h => by subst h; rfl
  | d :: ds, _, h => by
    obtain ⟨v, r, rfl, _, h2⟩ := h
    simp [Reps.length h2]
theorem Reps.get : ∀ {ds : List D} {vs : List V} {i : Nat} {d : D}, Reps K α F ds vs → ds[i]? = some d → ∃ v, vs[i]? = some v ∧ Rep K α F d v
  | [], _, _, _, _, e => by simp at e
  | d :: ds, _, 0, d', h, e => by
    obtain ⟨v, r, rfl, h1, _⟩ := h
    simp at e
    subst e
    exact ⟨v, rfl, h1⟩
  | d :: ds, _, i + 1, d', h, e => by
    obtain ⟨v, r, rfl, _, h2⟩ := h
    obtain ⟨w, e1, h3⟩ := Reps.get (i := i) h2 (by simpa using e)
    exact ⟨w, by simpa using e1, h3⟩
theorem Reps.get' {ds : List D} {vs : List V} {i : Nat} {v : V} (h : Reps K α F ds vs) (e : vs[i]? = some v) : ∃ d, ds[i]? = some d ∧ Rep K α F d v := by
  have hl := h.length
  have hi : i < vs.length := (List.getElem?_eq_some_iff.mp e).1
  have hd : ds[i]? = some ds[i] := List.getElem?_eq_getElem (by omega)
  obtain ⟨w, e1, r⟩ := h.get hd
  rw [e] at e1
  cases e1
  exact ⟨_, hd, r⟩
theorem Reps.append : ∀ {ds es : List D} {vs ws : List V}, Reps K α F ds vs → Reps K α F es ws → Reps K α F (ds ++ es) (vs ++ ws)
  | [], _, _, _, h, h' => by subst h; exact h'
  | d :: ds, _, _, _, h, h' => by
    obtain ⟨v, r, rfl, h1, h2⟩ := h
    exact ⟨v, r ++ _, rfl, h1, Reps.append h2 h'⟩
theorem Reps.one {d : D} {v : V} (h : Rep K α F d v) : Reps K α F [d] [v] := .cons h .nil
theorem Reps.take : ∀ (n : Nat) {ds : List D} {vs : List V}, Reps K α F ds vs → Reps K α F (ds.take n) (vs.take n)
  | 0, _, _, _ => by simp [Reps]
  | n + 1, [], _, h => by subst h; simp [Reps]
  | n + 1, d :: ds, _, h => by
    obtain ⟨v, r, rfl, h1, h2⟩ := h
    exact ⟨v, r.take n, rfl, h1, Reps.take n h2⟩
theorem Reps.drop : ∀ (n : Nat) {ds : List D} {vs : List V}, Reps K α F ds vs → Reps K α F (ds.drop n) (vs.drop n)
  | 0, _, _, h => h
  | n + 1, [], _, h => by subst h; simp [Reps]
  | n + 1, d :: ds, _, h => by
    obtain ⟨v, r, rfl, _, h2⟩ := h
    exact Reps.drop n h2
theorem Reps.set {d : D} {v : V} (hd : Rep K α F d v) : ∀ (i : Nat) {ds : List D} {vs : List V}, Reps K α F ds vs → Reps K α F (ds.set i d) (vs.set i v)
  | _, [], _, h => by subst h; simp [Reps]
  | 0, e :: ds, _, h => by
    obtain ⟨w, r, rfl, _, h2⟩ := h
    exact ⟨v, r, rfl, hd, h2⟩
  | i + 1, e :: ds, _, h => by
    obtain ⟨w, r, rfl, h1, h2⟩ := h
    exact ⟨w, r.set i v, rfl, h1, Reps.set hd i h2⟩
theorem Reps.dropLast {ds : List D} {vs : List V} (h : Reps K α F ds vs) : Reps K α F ds.dropLast vs.dropLast := by
  rw [List.dropLast_eq_take, List.dropLast_eq_take, ← h.length]
  exact Reps.take _ h
theorem Reps.ints : ∀ {ns : List Int} {vs : List V}, Reps K α F (ns.map D.int) vs → vs = ns.map V.int
  | [], _, h => h
  | n :: ns, _, h => by
    obtain ⟨v, r, rfl, h1, h2⟩ := h
    have h1' : v = .int n := h1
    rw [h1', Reps.ints h2]
    rfl
theorem Reps.of_ints : ∀ (ns : List Int), Reps K α F (ns.map D.int) (ns.map V.int)
  | [] => rfl
  | n :: ns => ⟨_, _, rfl, rfl, Reps.of_ints ns⟩
end

/-! ### the world: frozen objects, changing objects -/
def FsR (K : PySem.W.Frag) (α : List Addr) (F : Hp) : List (Str × D) → List (Str × V) → Prop
  | [], vs => vs = []
  | (f, d) :: r, vs => ∃ v rs, vs = (f, v) :: rs ∧ Rep K α F d v ∧ FsR K α F r rs
theorem FsR.up {K : PySem.W.Frag} {α α' : List Addr} {F F' : Hp} (hs : ∀ a o, F a = some o → F' a = some o) (hp : ∀ (i : Nat) (a : Addr), α[i]? = some a → α'[i]? = some a) :
    ∀ {fs : List (Str × D)} {vs : List (Str × V)}, FsR K α F fs vs → FsR K α' F' fs vs
  | [], _, h => h
  | (f, d) :: r, _, h => by
    obtain ⟨v, rs, e, h1, h2⟩ := h
    exact ⟨v, rs, e, Rep.up hs hp h1, FsR.up hs hp h2⟩
def ObR (K : PySem.W.Frag) (α : List Addr) (F H : Hp) (a : Addr) : Ob → Prop
  | .lst ds => ∃ vs, H a = some (.lst vs) ∧ Reps K α F ds vs
  | .ins C fs => ∃ dx vs, H a = some (.ins C dx vs) ∧ FsR K α F fs vs
structure Wd (K : PySem.W.Frag) (α : List Addr) (F : Hp) (S : Sto) (H : Hp) : Prop where
  sub : ∀ a o, F a = some o → H a = some o
  ln : α.length = S.length
  nd : α.Nodup
  ob : ∀ (i : Nat) (a : Addr) (o : Ob), α[i]? = some a → S[i]? = some o → F a = none ∧ ObR K α F H a o
structure EvR (K : PySem.W.Frag) (α : List Addr) (F H : Hp) (e : Ev) (σ : St) : Prop where
  len : σ.length = e.length
  dat : ∀ (i : Nat) (d : D), e[i]? = some (.dat d) → ∃ v, σ[i]? = some (some v) ∧ Rep K α F d v
  own : ∀ (i : Nat) (ds : List D), e[i]? = some (.own ds) → ∃ a vs, σ[i]? = some (some (.ref a)) ∧ H a = some (.lst vs) ∧ Reps K α F ds vs ∧ F a = none ∧ a ∉ α
  inj : ∀ (i j : Nat) (ds es : List D) (a : Addr), e[i]? = some (.own ds) → e[j]? = some (.own es) → σ[i]? = some (some (.ref a)) → σ[j]? = some (some (.ref a)) → i = j
/-- the addresses of the frame's own lists -/
def Own (e : Ev) (σ : St) (a : Addr) : Prop := ∃ (i : Nat) (ds : List D), e[i]? = some (.own ds) ∧ σ[i]? = some (some (.ref a))
def NoOwn : Addr → Prop := fun _ => False
structure Ext (O : Addr → Prop) (α : List Addr) (F H : Hp) (O' : Addr → Prop) (α' : List Addr) (F' H' : Hp) : Prop where
  pre : ∃ more, α' = α ++ more ∧ ∀ a ∈ more, H a = none
  sub : ∀ a o, F a = some o → F' a = some o
  kp : ∀ a o, H a = some o → a ∉ α → ¬ O a → H' a = some o
  new : ∀ a o, F' a = some o → F a = some o ∨ O a ∨ H a = none
  own : ∀ a, O' a → O a ∨ H a = none
  dom : ∀ a o, H a = some o → ∃ o', H' a = some o'
section
variable {K : PySem.W.Frag} {α α1 α2 : List Addr} {F F1 F2 H H1 H2 : Hp} {O O1 O2 : Addr → Prop} {e : Ev} {σ : St}
theorem Ext.refl (O : Addr → Prop) (α : List Addr) (F H : Hp) : Ext O α F H O α F H :=
  ⟨⟨[], by simp, by simp⟩, fun _ _ h => h, fun _ _ h _ _ => h, fun _ _ h => .inl h, fun _ h => .inl h, fun _ o h => ⟨o, h⟩⟩
theorem Ext.refl0 {O : Addr → Prop} : Ext O α F H NoOwn α F H :=
  ⟨⟨[], by simp, by simp⟩, fun _ _ h => h, fun _ _ h _ _ => h, fun _ _ h => .inl h, fun _ h => h.elim, fun _ o h => ⟨o, h⟩⟩
theorem Ext.at (x : Ext O α F H O1 α1 F1 H1) : ∀ (i : Nat) (a : Addr), α[i]? = some a → α1[i]? = some a := fun i a e => by
  obtain ⟨more, rfl, _⟩ := x.pre
  rw [List.getElem?_append_left (List.getElem?_eq_some_iff.mp e).1]
  exact e
theorem Ext.trans (x : Ext O α F H O1 α1 F1 H1) (y : Ext O1 α1 F1 H1 O2 α2 F2 H2) : Ext O α F H O2 α2 F2 H2 where
  pre := by
    obtain ⟨m1, e1, f1⟩ := x.pre
    obtain ⟨m2, e2, f2⟩ := y.pre
    refine ⟨m1 ++ m2, by rw [e2, e1, List.append_assoc], fun a ha => ?_⟩
    rcases List.mem_append.mp ha with h | h
    · exact f1 a h
    · cases q : H a with
      | none => rfl
      | some o =>
        obtain ⟨o', z⟩ := x.dom a o q
        rw [f2 a h] at z
        cases z
  sub := fun a o h => y.sub a o (x.sub a o h)
  kp := fun a o h ha ho => by
    obtain ⟨m1, e1, f1⟩ := x.pre
    refine y.kp a o (x.kp a o h ha ho) (fun hm => ?_) (fun q => ?_)
    · rw [e1] at hm
      rcases List.mem_append.mp hm with z | z
      · exact ha z
      · rw [f1 a z] at h
        cases h
    · rcases x.own a q with z | z
      · exact ho z
      · rw [z] at h
        cases h
  new := fun a o h => by
    rcases y.new a o h with z | z | z
    · exact x.new a o z
    · exact .inr (x.own a z)
    · refine .inr (.inr ?_)
      cases q : H a with
      | none => rfl
      | some u =>
        obtain ⟨o', w⟩ := x.dom a u q
        rw [z] at w
        cases w
  own := fun a h => by
    rcases y.own a h with z | z
    · exact x.own a z
    · refine .inr ?_
      cases q : H a with
      | none => rfl
      | some u =>
        obtain ⟨o', w⟩ := x.dom a u q
        rw [z] at w
        cases w
  dom := fun a o h => by
    obtain ⟨o1, h1⟩ := x.dom a o h
    exact y.dom a o1 h1
/-- what an expression does: the frame's own lists stay -/
abbrev Ex (α : List Addr) (F H : Hp) (α1 : List Addr) (F1 H1 : Hp) : Prop := Ext NoOwn α F H NoOwn α1 F1 H1
theorem Ext.to0 (x : Ext O α F H O1 α1 F1 H1) : Ext O α F H NoOwn α1 F1 H1 := ⟨x.pre, x.sub, x.kp, x.new, fun _ h => h.elim, x.dom⟩
theorem Ext.from0 (x : Ex α F H α1 F1 H1) (O : Addr → Prop) : Ext O α F H O α1 F1 H1 :=
  ⟨x.pre, x.sub, fun a o h ha _ => x.kp a o h ha (fun z => z), fun a o h => (x.new a o h).elim .inl fun z => z.elim (fun q => q.elim) fun q => .inr (.inr q), fun _ h => .inl h, x.dom⟩
theorem Ext.noO (x : Ext NoOwn α F H O1 α1 F1 H1) : Ex α F H α1 F1 H1 := x.to0
/-- what a frame knows is so behind an expression -/
theorem EvR.ex (R : EvR K α F H e σ) (x : Ex α F H α1 F1 H1) : EvR K α1 F1 H1 e σ where
  len := R.len
  dat := fun i d h => by
    obtain ⟨v, h1, h2⟩ := R.dat i d h
    exact ⟨v, h1, Rep.up x.sub x.at h2⟩
  own := fun i ds h => by
    obtain ⟨a, vs, h1, h2, h3, h4, h5⟩ := R.own i ds h
    refine ⟨a, vs, h1, x.kp a _ h2 h5 (fun z => z), Reps.up x.sub x.at h3, ?_, fun hm => ?_⟩
    · cases q : F1 a with
      | none => rfl
      | some o =>
        rcases x.new a o q with z | z | z
        · rw [h4] at z; cases z
        · exact z.elim
        · rw [h2] at z; cases z
    · obtain ⟨more, e1, f1⟩ := x.pre
      rw [e1] at hm
      rcases List.mem_append.mp hm with z | z
      · exact h5 z
      · rw [f1 a z] at h2; cases h2
  inj := R.inj
theorem Wd.ref {S : Sto} {n : Nat} {o : Ob} {v : V} (w : Wd K α F S H) (h : Rep K α F (.ref n) v) (e : S[n]? = some o) : ∃ a, v = .ref a ∧ α[n]? = some a ∧ F a = none ∧ ObR K α F H a o := by
  obtain ⟨a, h1, h2⟩ := h
  obtain ⟨h3, h4⟩ := w.ob n a o h1 e
  exact ⟨a, h2, h1, h3, h4⟩
/-- a new frozen object -/
theorem ext_new {p : Addr} {o : HO} {S : Sto} (w : Wd K α F S H) (hp : H p = none) : Ex α F H α (upd F p o) (upd H p o) ∧ Wd K α (upd F p o) S (upd H p o) ∧ upd F p o p = some o := by
  have hF : F p = none := by
    cases q : F p with
    | none => rfl
    | some u =>
      have z := w.sub p u q
      rw [hp] at z; cases z
  have kH : ∀ a u, H a = some u → upd H p o a = some u := fun a u h => by rw [upd_ne (ne_of_none h hp)]; exact h
  have kF : ∀ a u, F a = some u → upd F p o a = some u := fun a u h => by rw [upd_ne (ne_of_none h hF)]; exact h
  refine ⟨⟨⟨[], by simp, by simp⟩, kF, fun a u h _ _ => kH a u h, fun a u h => ?_, fun _ h => h.elim, fun a u h => ⟨u, kH a u h⟩⟩, ⟨fun a u h => ?_, w.ln, w.nd, fun i a u h1 h2 => ?_⟩, upd_same⟩
  · by_cases ha : a = p
    · subst ha; exact .inr (.inr hp)
    · rw [upd_ne ha] at h; exact .inl h
  · by_cases ha : a = p
    · subst ha; rw [upd_same] at h ⊢; exact h
    · rw [upd_ne ha] at h ⊢; exact w.sub a u h
  · obtain ⟨h3, h4⟩ := w.ob i a u h1 h2
    have hap : a ≠ p := by
      cases u with
      | lst ds => obtain ⟨vs, z, _⟩ := h4; exact ne_of_none z hp
      | ins C fs => obtain ⟨dx, vs, z, _⟩ := h4; exact ne_of_none z hp
    refine ⟨by rw [upd_ne hap]; exact h3, ?_⟩
    cases u with
    | lst ds =>
      obtain ⟨vs, z, r⟩ := h4
      exact ⟨vs, kH _ _ z, Reps.up kF (fun _ _ h => h) r⟩
    | ins C fs =>
      obtain ⟨dx, vs, z, r⟩ := h4
      exact ⟨dx, vs, kH _ _ z, FsR.up kF (fun _ _ h => h) r⟩
end
end DL
set_option maxHeartbeats 2000000
namespace DL
open PySem PySem.Spec L2

/-- a relation that stays along expressions -/
structure Mono {β γ : Type} (R : List Addr → Hp → Hp → β → γ → Prop) : Prop where
  up : ∀ {α F H α' F' H' b c}, Ex α F H α' F' H' → R α F H b c → R α' F' H' b c
abbrev RD (K : PySem.W.Frag) : List Addr → Hp → Hp → D → V → Prop := fun α F _ d v => Rep K α F d v
abbrev RA (K : PySem.W.Frag) : List Addr → Hp → Hp → List D → List V → Prop := fun α F _ d v => Reps K α F d v
abbrev RT : List Addr → Hp → Hp → Bool → Bool → Prop := fun _ _ _ a b => a = b
theorem mono_D {K : PySem.W.Frag} : Mono (RD K) := ⟨fun x h => Rep.up x.sub x.at h⟩
theorem mono_A {K : PySem.W.Frag} : Mono (RA K) := ⟨fun x h => Reps.up x.sub x.at h⟩
theorem mono_T : Mono RT := ⟨fun _ h => h⟩
/-- what may be stored in a slot -/
def RSl (K : PySem.W.Frag) : List Addr → Hp → Hp → Slot → V → Prop := fun α F H s v => match s with
  | .no => False
  | .dat d => Rep K α F d v
  | .own ds => ∃ a vs, v = .ref a ∧ H a = some (.lst vs) ∧ Reps K α F ds vs ∧ F a = none ∧ a ∉ α
theorem mono_Sl {K : PySem.W.Frag} : Mono (RSl K) := ⟨fun {α F H α' F' H' b c} x h => by
  cases b with
  | no => exact h
  | dat d => exact Rep.up x.sub x.at h
  | own ds =>
    obtain ⟨a, vs, e, h2, h3, h4, h5⟩ := h
    refine ⟨a, vs, e, x.kp a _ h2 h5 (fun z => z), Reps.up x.sub x.at h3, ?_, fun hm => ?_⟩
    · cases q : F' a with
      | none => rfl
      | some o =>
        rcases x.new a o q with z | z | z
        · rw [h4] at z; cases z
        · exact z.elim
        · rw [h2] at z; cases z
    · obtain ⟨more, e1, f1⟩ := x.pre
      rw [e1] at hm
      rcases List.mem_append.mp hm with z | z
      · exact h5 z
      · rw [f1 a z] at h2; cases h2⟩

/-- behind an expression with the result r -/
def Post {β γ : Type} (K : PySem.W.Frag) (W : WX) (R : List Addr → Hp → Hp → β → γ → Prop) (σ : L2.St) (α : List Addr) (F H : Hp) (r : Res β) (Q : γ → Hp → Prop) : Prop := match r with
  | .ok b S' => ∀ (c : γ) (H' : Hp) (α' : List Addr) (F' : Hp), Ex α F H α' F' H' → Wd K α' F' S' H' → R α' F' H' b c → Q c H'
  | .ex x S' => ∀ (dd : Addr) (fv : List (Str × V)) (H' : Hp) (α' : List Addr) (F' : Hp), Ex α F H α' F' H' → Wd K α' F' S' H' → H' dd = some (.xd fv) → FsR K α' F' x.fs fv → W (.ref x.cls) (some dd) σ H'
  | .stuck => False
theorem Post.trans {β γ : Type} {K : PySem.W.Frag} {W : WX} {R : List Addr → Hp → Hp → β → γ → Prop} {σ : L2.St} {α α1 : List Addr} {F F1 H H1 : Hp} {r : Res β} {Q : γ → Hp → Prop} (x : Ex α F H α1 F1 H1) (p : Post K W R σ α F H r Q) : Post K W R σ α1 F1 H1 r Q := by
  cases r with
  | ok b S' => exact fun c H' α' F' x' w r' => p c H' α' F' (x.trans x') w r'
  | ex e S' => exact fun dd fv H' α' F' x' w h1 h2 => p dd fv H' α' F' (x.trans x') w h1 h2
  | stuck => exact p
/-- the reading of a data-level meaning -/
def tG {β γ : Type} (K : PySem.W.Frag) (W : WX) (R : List Addr → Hp → Hp → β → γ → Prop) (g : Ev → Sto → Res β) : L2.St → Hp → (γ → Hp → Prop) → Prop := fun σ H Q =>
  ∃ (α : List Addr) (F : Hp) (e : Ev) (S : Sto), Wd K α F S H ∧ EvR K α F H e σ ∧ Post K W R σ α F H (g e S) Q
/-- .. with something known besides -/
def At {β γ : Type} (K : PySem.W.Frag) (W : WX) (R : List Addr → Hp → Hp → β → γ → Prop) (C : List Addr → Hp → Hp → Prop) (g : Ev → Sto → Res β) : L2.St → Hp → (γ → Hp → Prop) → Prop := fun σ H Q =>
  ∃ (α : List Addr) (F : Hp) (e : Ev) (S : Sto), Wd K α F S H ∧ EvR K α F H e σ ∧ C α F H ∧ Post K W R σ α F H (g e S) Q
structure MonoC (C : List Addr → Hp → Hp → Prop) : Prop where
  up : ∀ {α F H α' F' H'}, Ex α F H α' F' H' → C α F H → C α' F' H'
theorem mono_true : MonoC fun _ _ _ => True := ⟨fun _ _ => trivial⟩
theorem MonoC.and {β γ : Type} {C : List Addr → Hp → Hp → Prop} {R : List Addr → Hp → Hp → β → γ → Prop} (m : MonoC C) (r : Mono R) (b : β) (c : γ) : MonoC fun α F H => C α F H ∧ R α F H b c := ⟨fun x h => ⟨m.up x h.1, r.up x h.2⟩⟩
section
variable {K : PySem.W.Frag} {W : WX} {β γ δ ε : Type} {R : List Addr → Hp → Hp → β → γ → Prop} {R2 : List Addr → Hp → Hp → δ → ε → Prop} {C : List Addr → Hp → Hp → Prop} {σ : L2.St} {H : Hp}
theorem tG.at {g : Ev → Sto → Res β} {Q : γ → Hp → Prop} (h : tG K W R g σ H Q) : At K W R (fun _ _ _ => True) g σ H Q := by
  obtain ⟨α, F, e, S, w, r, p⟩ := h
  exact ⟨α, F, e, S, w, r, trivial, p⟩
theorem At.to {g : Ev → Sto → Res β} {Q : γ → Hp → Prop} (h : At K W R C g σ H Q) : tG K W R g σ H Q := by
  obtain ⟨α, F, e, S, w, r, _, p⟩ := h
  exact ⟨α, F, e, S, w, r, p⟩
/-- one after another -/
theorem At.bind {g : Ev → Sto → Res δ} {k : δ → Ev → Sto → Res β} {Q : γ → Hp → Prop} (m : MonoC C) (m2 : Mono R2) (h : At K W R C (fun e S => (g e S).bind fun b S1 => k b e S1) σ H Q) :
    tG K W R2 g σ H (fun c H1 => ∃ b, At K W R (fun α F H => C α F H ∧ R2 α F H b c) (k b) σ H1 Q) := by
  obtain ⟨α, F, e, S, w, r, hc, p⟩ := h
  refine ⟨α, F, e, S, w, r, ?_⟩
  dsimp only at p
  cases q : g e S with
  | ok b S1 =>
    rw [q] at p
    intro c H1 α1 F1 x w1 r1
    exact ⟨b, α1, F1, e, S1, w1, r.ex x, ⟨m.up x hc, r1⟩, Post.trans x p⟩
  | ex y S1 =>
    rw [q] at p
    exact p
  | stuck =>
    rw [q] at p
    exact p.elim
theorem tG.mono {g : Ev → Sto → Res β} {Q Q' : γ → Hp → Prop} (h : tG K W R g σ H Q) (hq : ∀ c H, Q c H → Q' c H) : tG K W R g σ H Q' := by
  obtain ⟨α, F, e, S, w, r, p⟩ := h
  refine ⟨α, F, e, S, w, r, ?_⟩
  cases q : g e S with
  | ok b S1 =>
    rw [q] at p
    exact fun c H' α' F' x w r => hq _ _ (p c H' α' F' x w r)
  | ex y S1 => rw [q] at p; exact p
  | stuck => rw [q] at p; exact p
end

abbrev tD (K : PySem.W.Frag) (W : WX) (g : GE) : TE := tG K W (RD K) g
abbrev tDT (K : PySem.W.Frag) (W : WX) (g : GT) : TT := tG K W RT g
abbrev tDA (K : PySem.W.Frag) (W : WX) (g : GA) : TA := tG K W (RA K) g
abbrev tDV (K : PySem.W.Frag) (W : WX) (g : Ev → Sto → Res Slot) : TE := tG K W (RSl K) g
abbrev DE (X : Cx) (W : WX) (e : Expr) (g : GE) : Prop := PE X e (tD X.K W g)
abbrev DV (X : Cx) (W : WX) (e : Expr) (g : Ev → Sto → Res Slot) : Prop := PE X e (tDV X.K W g)
abbrev DT (X : Cx) (W : WX) (e : Expr) (g : GT) : Prop := PT X e (tDT X.K W g)
abbrev DA (X : Cx) (W : WX) (es : List Expr) (g : GA) : Prop := PA X es (tDA X.K W g)
theorem pe_weak {X : Cx} {e : Expr} {t t' : TE} (h : PE X e t) (w : ∀ σ H Q, t' σ H Q → t σ H Q) : PE X e t' := ⟨fun pins s σ H Q I q => h.run pins s σ H Q I (w σ H Q q)⟩
theorem pt_weak {X : Cx} {e : Expr} {t t' : TT} (h : PT X e t) (w : ∀ σ H Q, t' σ H Q → t σ H Q) : PT X e t' := ⟨fun pins s σ H Q I q => h.run pins s σ H Q I (w σ H Q q)⟩
theorem pw_weak {X : Cx} {e : Expr} {t t' : TT} (h : PW X e t) (w : ∀ σ H Q, t' σ H Q → t σ H Q) : PW X e t' := ⟨fun wh pins s σ H Q I q => h.run wh pins s σ H Q I (w σ H Q q)⟩
theorem pa_weak {X : Cx} {e : List Expr} {t t' : TA} (h : PA X e t) (w : ∀ σ H Q, t' σ H Q → t σ H Q) : PA X e t' := ⟨fun pos pins s σ H Q I q => h.run pos pins s σ H Q I (w σ H Q q)⟩

/-! ### names, constants -/
def gVar (i : Nat) : GE := fun e S => match e[i]? with
  | some (.dat d) => .ok d S
  | _ => .stuck
def gC (d : D) : GE := fun _ S => .ok d S
section
variable {X : Cx} {W : WX}
theorem Post.ok {β γ : Type} {K : PySem.W.Frag} {R : List Addr → Hp → Hp → β → γ → Prop} {σ : L2.St} {α : List Addr} {F H : Hp} {b : β} {c : γ} {S : Sto} {Q : γ → Hp → Prop} (p : Post K W R σ α F H (.ok b S) Q) (w : Wd K α F S H) (r : R α F H b c) : Q c H :=
  p c H α F (Ext.refl _ _ _ _).noO w r
theorem de_var {i : Nat} {x : Str} {pos : Pos} (hN : X.N[i]? = some x) (hv : Vis X.env.scope x) (hd : (x == ("__debug__" : Str)) = false := by decide) (hcd : (x == ("__classdict__" : Str)) = false := by decide) : DE X W (.Name x pos) (gVar i) := by
  refine pe_weak (pe_var hN hv hd hcd) fun σ H Q h => ?_
  obtain ⟨α, F, e, S, w, r, p⟩ := h
  unfold gVar at p
  split at p
  · rename_i d hd
    obtain ⟨v, h1, h2⟩ := r.dat i d hd
    exact ⟨v, h1, p.ok w h2⟩
  · exact p.elim
theorem de_c {e : Expr} {v : V} {d : D} (h : PE X e (L2.tC v)) (hr : ∀ α F, Rep X.K α F d v) : DE X W e (gC d) := by
  refine pe_weak h fun σ H Q h => ?_
  obtain ⟨α, F, e, S, w, r, p⟩ := h
  exact p.ok w (hr _ _)
theorem de_int {i : Int} {j pos} : DE X W (.Constant (.int i) j pos) (gC (.int i)) := de_c pe_int fun _ _ => rfl
theorem de_bl {b j pos} : DE X W (.Constant (.bool b) j pos) (gC (.bl b)) := de_c pe_bl fun _ _ => rfl
theorem de_non {j pos} : DE X W (.Constant .none j pos) (gC .non) := de_c pe_non fun _ _ => rfl
theorem de_str {x j pos} : DE X W (.Constant (.str x) j pos) (gC (.str x)) := de_c pe_str fun _ _ => rfl
/-- a constant of the module -/
theorem de_glob {x : Str} {v : V} {u : Value} {d : D} {pos : Pos} (hg : Gl X x) (hm : X.mg x = some u) (r : RelV v u) (hr : ∀ α F, Rep X.K α F d v) (hd : (x == ("__debug__" : Str)) = false := by decide) : DE X W (.Name x pos) (gC d) :=
  de_c (pe_glob hg hm r hd) hr
end

/-! ### operators -/
/-- a rule of two values -/
def OpD (K : PySem.W.Frag) (r : R2) (f : Sto → D → D → Option D) : Prop :=
  ∀ (α : List Addr) (F : Hp) (S : Sto) (H : Hp) (x y : V) (a b d : D) (Q : VK), Wd K α F S H → Rep K α F a x → Rep K α F b y → f S a b = some d →
    (∀ (v : V) (H' : Hp) (α' : List Addr) (F' : Hp), Ex α F H α' F' H' → Wd K α' F' S H' → Rep K α' F' d v → Q v H') → r x y H Q
def gOp (f : Sto → D → D → Option D) (ga gb : GE) : GE := fun e S => (ga e S).bind fun a S1 => (gb e S1).bind fun b S2 => lift (f S2 a b) S2
def gUn (f : Sto → D → Option D) (ga : GE) : GE := fun e S => (ga e S).bind fun a S1 => lift (f S1 a) S1
section
variable {X : Cx} {W : WX} {a b c : Expr} {ga gb gc : GE} {pos : Pos} {r r' : R2} {f f' : Sto → D → D → Option D}
theorem tOp_of (hf : OpD X.K r f) (σ : L2.St) (H : Hp) (Q : VK) (h : tD X.K W (gOp f ga gb) σ H Q) : tOp r (tD X.K W ga) (tD X.K W gb) σ H Q := by
  refine (tG.at h).bind mono_true mono_D |>.mono fun x H1 ⟨a, h1⟩ => ?_
  refine h1.bind (mono_true.and mono_D a x) mono_D |>.mono fun y H2 ⟨b, α, F, e, S, w, re, ⟨⟨_, ra⟩, rb⟩, p⟩ => ?_
  dsimp only at p
  cases q : f S a b with
  | none => rw [q] at p; exact p.elim
  | some d =>
    rw [q] at p
    exact hf α F S H2 x y a b d Q w ra rb q fun v H' α' F' x w r => p v H' α' F' x w r
theorem de_op {op : Operator} (ho : OpR X (binaryOp op) r) (hf : OpD X.K r f) (ha : DE X W a ga) (hb : DE X W b gb) : DE X W (.BinOp a op b pos) (gOp f ga gb) := pe_weak (pe_op ho ha hb) (tOp_of hf)
theorem de_cmp {op : CmpOp} (ho : OpR X (compareOp op) r) (hf : OpD X.K r f) (ha : DE X W a ga) (hb : DE X W b gb) (hm : behindInMarks op b = false) : DE X W (.Compare a [op] [b] pos) (gOp f ga gb) := pe_weak (pe_cmpR ho ha hb hm) (tOp_of hf)
def blOf : D → Option Bool
  | .bl b => some b
  | _ => none
/-- a comparison as a test -/
def gTest (g : GE) : GT := fun e S => (g e S).bind fun a S1 => lift (blOf a) S1
theorem tTest_of {t : TE} {g : GE} (ht : ∀ σ H Q, tD X.K W g σ H Q → t σ H Q) (σ : L2.St) (H : Hp) (Q : Bool → Hp → Prop) (h : tDT X.K W (gTest g) σ H Q) : tTest t σ H Q := by
  refine ht _ _ _ ((tG.at h).bind mono_true mono_D |>.mono fun x H1 ⟨a, α, F, e, S, w, re, ⟨_, ra⟩, p⟩ => ?_)
  cases a with
  | bl k => exact ⟨k, ra, p.ok w rfl⟩
  | _ => exact p.elim
theorem dt_cmp {op : CmpOp} (ho : OpR X (compareOp op) r) (hf : OpD X.K r f) (ha : DE X W a ga) (hb : DE X W b gb) (hm : behindInMarks op b = false) : DT X W (.Compare a [op] [b] pos) (gTest (gOp f ga gb)) :=
  pt_weak (pt_cmpR ho ha hb hm) (tTest_of (tOp_of hf))
/-- a < b < c -/
def gChain (f f' : Sto → D → D → Option D) (ga gb gc : GE) : GE := fun e S => (ga e S).bind fun a S1 => (gb e S1).bind fun b S2 => (lift ((f S2 a b).bind blOf) S2).bind fun k S3 =>
  if k = true then (gc e S3).bind fun c S4 => lift (f' S4 b c) S4 else .ok (.bl false) S3
theorem OpD.use {σ : L2.St} {α : List Addr} {F H : Hp} {S : Sto} {x y : V} {a b : D} {Q : VK} (hf : OpD X.K r f) (w : Wd X.K α F S H) (ra : Rep X.K α F a x) (rb : Rep X.K α F b y)
    (p : Post X.K W (RD X.K) σ α F H (lift (f S a b) S) Q) : r x y H Q := by
  cases q : f S a b with
  | none => rw [q] at p; exact p.elim
  | some d =>
    rw [q] at p
    exact hf α F S H x y a b d Q w ra rb q fun v H' α' F' x w r => p v H' α' F' x w r
theorem tChain_of (hf : OpD X.K r f) (hf' : OpD X.K r' f') (σ : L2.St) (H : Hp) (Q : VK) (h : tD X.K W (gChain f f' ga gb gc) σ H Q) : tChain r r' (tD X.K W ga) (tD X.K W gb) (tD X.K W gc) σ H Q := by
  refine (tG.at h).bind mono_true mono_D |>.mono fun x H1 ⟨a, h1⟩ => ?_
  refine h1.bind (mono_true.and mono_D a x) mono_D |>.mono fun y H2 ⟨b, α, F, e, S, w, re, ⟨⟨_, ra⟩, rb⟩, p⟩ => ?_
  dsimp only at p
  cases q : f S a b with
  | none => rw [q] at p; exact p.elim
  | some d =>
    rw [q] at p
    cases d with
    | bl k =>
      refine hf α F S H2 x y a b (.bl k) _ w ra rb q fun v H3 α3 F3 x3 w3 r3 => ⟨k, r3, ?_⟩
      cases k with
      | true =>
        have h3 : tD X.K W (fun e S3 => (gc e S3).bind fun c S4 => lift (f' S4 b c) S4) σ H3 Q := ⟨α3, F3, e, S, w3, re.ex x3, Post.trans x3 p⟩
        have h4 : At X.K W (RD X.K) (fun α F _ => Rep X.K α F b y) (fun e S3 => (gc e S3).bind fun c S4 => lift (f' S4 b c) S4) σ H3 Q := ⟨α3, F3, e, S, w3, re.ex x3, mono_D.up x3 rb, Post.trans x3 p⟩
        rw [if_pos rfl]
        exact h4.bind ⟨fun x h => mono_D.up x h⟩ mono_D |>.mono fun z H4 ⟨c, α4, F4, e4, S4, w4, re4, ⟨rb4, rc⟩, p4⟩ => hf'.use w4 rb4 rc p4
      | false =>
        rw [if_neg (by decide)]
        exact (Post.trans x3 p).ok w3 rfl
    | _ => exact p.elim
theorem de_chain {op op' : CmpOp} (ho : OpR X (compareOp op) r) (ho' : OpR X (compareOp op') r') (hf : OpD X.K r f) (hf' : OpD X.K r' f') (ha : DE X W a ga) (hb : DE X W b gb) (hc : DE X W c gc)
    (hm : lastMarks [op, op'] [b, c] = false := by with_unfolding_all rfl) : DE X W (.Compare a [op, op'] [b, c] pos) (gChain f f' ga gb gc) := pe_weak (pe_chain ho ho' ha hb hc hm) (tChain_of hf hf')
theorem dt_chain {op op' : CmpOp} (ho : OpR X (compareOp op) r) (ho' : OpR X (compareOp op') r') (hf : OpD X.K r f) (hf' : OpD X.K r' f') (ha : DE X W a ga) (hb : DE X W b gb) (hc : DE X W c gc)
    (hm : lastMarks [op, op'] [b, c] = false := by with_unfolding_all rfl) : DT X W (.Compare a [op, op'] [b, c] pos) (gTest (gChain f f' ga gb gc)) := pt_weak (pt_chain ho ho' ha hb hc hm) (tTest_of (tChain_of hf hf'))
end

/-! ### tests, and, or, not, if -/
section
variable {X : Cx} {W : WX} {a b c : Expr} {ga gb : GE} {ta tb : GT} {pos : Pos} {rest : List Expr}
def gAndT (t u : GT) : GT := fun e S => (t e S).bind fun b S1 => if b = true then u e S1 else .ok false S1
def gOrT (t u : GT) : GT := fun e S => (t e S).bind fun b S1 => if b = true then .ok true S1 else u e S1
def gNotT (t : GT) : GT := fun e S => (t e S).bind fun b S1 => .ok (!b) S1
def gAndV (g u : GE) : GE := fun e S => (g e S).bind fun a S1 => (lift (blOf a) S1).bind fun k S2 => if k = true then u e S2 else .ok (.bl false) S2
def gOrV (g u : GE) : GE := fun e S => (g e S).bind fun a S1 => (lift (blOf a) S1).bind fun k S2 => if k = true then .ok (.bl true) S2 else u e S2
def gNotV (g : GE) : GE := fun e S => (g e S).bind fun a S1 => (lift (blOf a) S1).bind fun k S2 => .ok (.bl (!k)) S2
def gIf (t : GT) (g u : GE) : GE := fun e S => (t e S).bind fun k S1 => if k = true then g e S1 else u e S1
abbrev DW (X : Cx) (W : WX) (e : Expr) (g : GT) : Prop := PW X e (tDT X.K W g)
theorem dw_and1 (ha : DT X W a ta) : DW X W (.BoolOp .And [a] pos) ta := pw_and1 ha
theorem dw_or1 (ha : DT X W a ta) : DW X W (.BoolOp .Or [a] pos) ta := pw_or1 ha
theorem dw_and (ha : DT X W a ta) (hb : DW X W (.BoolOp .And (b :: rest) pos) tb) : DW X W (.BoolOp .And (a :: b :: rest) pos) (gAndT ta tb) := by
  refine pw_weak (pw_and ha hb) fun σ H Q h => ?_
  refine (tG.at h).bind mono_true mono_T |>.mono fun k H1 ⟨k', α, F, e, S, w, re, ⟨_, rk⟩, p⟩ => ?_
  have rk' : k' = k := rk
  subst rk'
  dsimp only at p
  cases k' with
  | true => rw [if_pos rfl] at p ⊢; exact ⟨α, F, e, S, w, re, p⟩
  | false => rw [if_neg (by decide)] at p ⊢; exact p.ok w rfl
theorem dw_or (ha : DT X W a ta) (hb : DW X W (.BoolOp .Or (b :: rest) pos) tb) : DW X W (.BoolOp .Or (a :: b :: rest) pos) (gOrT ta tb) := by
  refine pw_weak (pw_or ha hb) fun σ H Q h => ?_
  refine (tG.at h).bind mono_true mono_T |>.mono fun k H1 ⟨k', α, F, e, S, w, re, ⟨_, rk⟩, p⟩ => ?_
  have rk' : k' = k := rk
  subst rk'
  dsimp only at p
  cases k' with
  | true => rw [if_pos rfl] at p ⊢; exact p.ok w rfl
  | false => rw [if_neg (by decide)] at p ⊢; exact ⟨α, F, e, S, w, re, p⟩
theorem dt_w (h : DW X W a ta) : DT X W a ta := h.pt
theorem dt_not (ha : DT X W a ta) : DT X W (.UnaryOp .Not a pos) (gNotT ta) := by
  refine pt_weak (pt_not ha) fun σ H Q h => ?_
  refine (tG.at h).bind mono_true mono_T |>.mono fun k H1 ⟨k', α, F, e, S, w, re, ⟨_, rk⟩, p⟩ => ?_
  have rk' : k' = k := rk
  subst rk'
  exact p.ok w rfl
theorem tB_of (σ : L2.St) (H : Hp) (Q : Bool → Hp → Prop) (h : tDT X.K W (gTest ga) σ H Q) : L2.tB (tD X.K W ga) σ H Q := by
  refine (tG.at h).bind mono_true mono_D |>.mono fun x H1 ⟨a, α, F, e, S, w, re, ⟨_, ra⟩, p⟩ => ?_
  cases a with
  | bl k => exact ⟨k, ra, p.ok w rfl⟩
  | _ => exact p.elim
/-- an expression whose value is a bool, as a test -/
theorem dt_val (h : DE X W a ga) (he : ∀ whole, isTrue a X.env whole = (do let v ← whole; standAt a.pos; holding [v] (truthy v)) := by intro _; rfl) : DT X W a (gTest ga) := pt_weak (pt_val h he) tB_of
theorem bl_of {K : PySem.W.Frag} {σ : L2.St} {α : List Addr} {F H : Hp} {S : Sto} {x : V} {a : D} {Q : VK} {f : Bool → Sto → Res D} (w : Wd K α F S H) (ra : Rep K α F a x)
    (p : Post K W (RD K) σ α F H ((lift (blOf a) S).bind f) Q) : ∃ k, x = .bl k ∧ Post K W (RD K) σ α F H (f k S) Q := by
  cases a with
  | bl k => exact ⟨k, ra, p⟩
  | _ => exact p.elim
theorem de_one {op} (h : DE X W a ga) : DE X W (.BoolOp op [a] pos) ga := pe_one h
theorem de_and (ha : DE X W a ga) (hb : DE X W (.BoolOp .And (b :: rest) pos) gb) : DE X W (.BoolOp .And (a :: b :: rest) pos) (gAndV ga gb) := by
  refine pe_weak (pe_and ha hb) fun σ H Q h => ?_
  refine (tG.at h).bind mono_true mono_D |>.mono fun x H1 ⟨a, α, F, e, S, w, re, ⟨_, ra⟩, p⟩ => ?_
  obtain ⟨k, rfl, p⟩ := bl_of w ra p
  refine ⟨k, rfl, ?_⟩
  cases k with
  | true => rw [if_pos rfl] at p ⊢; exact ⟨α, F, e, S, w, re, p⟩
  | false => rw [if_neg (by decide)] at p ⊢; exact p.ok w rfl
theorem de_or (ha : DE X W a ga) (hb : DE X W (.BoolOp .Or (b :: rest) pos) gb) : DE X W (.BoolOp .Or (a :: b :: rest) pos) (gOrV ga gb) := by
  refine pe_weak (pe_or ha hb) fun σ H Q h => ?_
  refine (tG.at h).bind mono_true mono_D |>.mono fun x H1 ⟨a, α, F, e, S, w, re, ⟨_, ra⟩, p⟩ => ?_
  obtain ⟨k, rfl, p⟩ := bl_of w ra p
  refine ⟨k, rfl, ?_⟩
  cases k with
  | true => rw [if_pos rfl] at p ⊢; exact p.ok w rfl
  | false => rw [if_neg (by decide)] at p ⊢; exact ⟨α, F, e, S, w, re, p⟩
theorem de_not (ha : DE X W a ga) : DE X W (.UnaryOp .Not a pos) (gNotV ga) := by
  refine pe_weak (pe_not ha) fun σ H Q h => ?_
  refine (tG.at h).bind mono_true mono_D |>.mono fun x H1 ⟨a, α, F, e, S, w, re, ⟨_, ra⟩, p⟩ => ?_
  obtain ⟨k, rfl, p⟩ := bl_of w ra p
  exact ⟨k, rfl, p.ok w rfl⟩
theorem de_if (hc : DT X W c ta) (ha : DE X W a ga) (hb : DE X W b gb) : DE X W (.IfExp c a b pos) (gIf ta ga gb) := by
  refine pe_weak (pe_ifExp hc ha hb) fun σ H Q h => ?_
  refine (tG.at h).bind mono_true mono_T |>.mono fun k H1 ⟨k', α, F, e, S, w, re, ⟨_, rk⟩, p⟩ => ?_
  have rk' : k' = k := rk
  subst rk'
  dsimp only at p
  cases k' with
  | true => rw [if_pos rfl] at p ⊢; exact ⟨α, F, e, S, w, re, p⟩
  | false => rw [if_neg (by decide)] at p ⊢; exact ⟨α, F, e, S, w, re, p⟩
/-- a one-place operation -/
def UnD (K : PySem.W.Frag) (r : V → Hp → VK → Prop) (f : Sto → D → Option D) : Prop :=
  ∀ (α : List Addr) (F : Hp) (S : Sto) (H : Hp) (x : V) (a d : D) (Q : VK), Wd K α F S H → Rep K α F a x → f S a = some d →
    (∀ (v : V) (H' : Hp) (α' : List Addr) (F' : Hp), Ex α F H α' F' H' → Wd K α' F' S H' → Rep K α' F' d v → Q v H') → r x H Q
theorem de_un {op : UnaryOp} {r : V → Hp → VK → Prop} {f : Sto → D → Option D} (ho : UnR X (unaryOp op) r) (hf : UnD X.K r f) (ha : DE X W a ga) : DE X W (.UnaryOp op a pos) (gUn f ga) := by
  refine pe_weak (pe_un ho ha) fun σ H Q h => ?_
  refine (tG.at h).bind mono_true mono_D |>.mono fun x H1 ⟨a, α, F, e, S, w, re, ⟨_, ra⟩, p⟩ => ?_
  dsimp only at p
  cases q : f S a with
  | none => rw [q] at p; exact p.elim
  | some d =>
    rw [q] at p
    exact hf α F S H1 x a d Q w ra q fun v H' α' F' x w r => p v H' α' F' x w r
end

/-! ### argument lists, displays, built-in calls -/
section
variable {X : Cx} {W : WX} {a : Expr} {es : List Expr} {ga : GE} {gs : GA} {pos : Pos}
def gNil : GA := fun _ S => .ok [] S
def gCons (g : GE) (r : GA) : GA := fun e S => (g e S).bind fun a S1 => (r e S1).bind fun as S2 => .ok (a :: as) S2
theorem da_nil : DA X W [] gNil := pa_weak pa_nil fun σ H Q h => by
  obtain ⟨α, F, e, S, w, r, p⟩ := h
  exact p.ok w rfl
theorem da_cons (ha : DE X W a ga) (hr : DA X W es gs) (hs : starEach (a :: es) X.env = (false, eval a X.env) :: starEach es X.env := by rfl) : DA X W (a :: es) (gCons ga gs) := by
  refine pa_weak (pa_cons ha hr hs) fun σ H Q h => ?_
  refine (tG.at h).bind mono_true mono_D |>.mono fun x H1 ⟨a, h1⟩ => ?_
  refine h1.bind (mono_true.and mono_D a x) mono_A |>.mono fun xs H2 ⟨as, α, F, e, S, w, re, ⟨⟨_, ra⟩, rs⟩, p⟩ => ?_
  exact p.ok w (Reps.cons ra rs)
def line : Nat := 16777216
theorem line_eq : sizeLine = line := sizeLine_eq
def gTup (gs : GA) : GE := fun e S => (gs e S).bind fun as S1 => if as.length ≤ line then .ok (.tup as) S1 else .stuck
def gLst (gs : GA) : GE := fun e S => (gs e S).bind fun as S1 => if as.length ≤ line then .ok (.lst as) S1 else .stuck
theorem de_tup {x1} (h : DA X W es gs) : DE X W (.Tuple es x1 pos) (gTup gs) := by
  refine pe_weak (pe_tup h) fun σ H Q h => ?_
  refine (tG.at h).bind mono_true mono_A |>.mono fun xs H1 ⟨as, α, F, e, S, w, re, ⟨_, ra⟩, p⟩ => ?_
  dsimp only at p
  by_cases hl : as.length ≤ line
  · rw [if_pos hl] at p
    refine ⟨by rw [line_eq, ← ra.length]; exact hl, fun q hq => ?_⟩
    obtain ⟨x', w', e'⟩ := ext_new (o := .tup xs) w hq
    exact p _ _ _ _ x' w' ⟨q, xs, rfl, .inl e', mono_A.up x' ra⟩
  · rw [if_neg hl] at p; exact p.elim
theorem de_lst (h : DA X W es gs) : DE X W (.List es pos) (gLst gs) := by
  refine pe_weak (pe_lst h) fun σ H Q h => ?_
  refine (tG.at h).bind mono_true mono_A |>.mono fun xs H1 ⟨as, α, F, e, S, w, re, ⟨_, ra⟩, p⟩ => ?_
  dsimp only at p
  by_cases hl : as.length ≤ line
  · rw [if_pos hl] at p
    refine ⟨by rw [line_eq, ← ra.length]; exact hl, fun q hq => ?_⟩
    obtain ⟨x', w', e'⟩ := ext_new (o := .lst xs) w hq
    exact p _ _ _ _ x' w' ⟨q, xs, rfl, e', mono_A.up x' ra⟩
  · rw [if_neg hl] at p; exact p.elim
/-- a call of a built-in by values -/
def CallD (K : PySem.W.Frag) (r : List V → Hp → VK → Prop) (f : Sto → List D → Option D) : Prop :=
  ∀ (α : List Addr) (F : Hp) (S : Sto) (H : Hp) (xs : List V) (as : List D) (d : D) (Q : VK), Wd K α F S H → Reps K α F as xs → f S as = some d →
    (∀ (v : V) (H' : Hp) (α' : List Addr) (F' : Hp), Ex α F H α' F' H' → Wd K α' F' S H' → Rep K α' F' d v → Q v H') → r xs H Q
def gCB (f : Sto → List D → Option D) (gs : GA) : GE := fun e S => (gs e S).bind fun as S1 => lift (f S1 as) S1
theorem tCB_of {r : List V → Hp → VK → Prop} {f : Sto → List D → Option D} (hf : CallD X.K r f) (σ : L2.St) (H : Hp) (Q : VK) (h : tD X.K W (gCB f gs) σ H Q) : tCB r (tDA X.K W gs) σ H Q := by
  refine (tG.at h).bind mono_true mono_A |>.mono fun xs H1 ⟨as, α, F, e, S, w, re, ⟨_, ra⟩, p⟩ => ?_
  dsimp only at p
  cases q : f S as with
  | none => rw [q] at p; exact p.elim
  | some d =>
    rw [q] at p
    exact hf α F S H1 xs as d Q w ra q fun v H' α' F' x w r => p v H' α' F' x w r
theorem de_callB {x : Str} {p : Pos} {id : String} {r : List V → Hp → VK → Prop} {f : Sto → List D → Option D} (hc : CallR X (.builtin id) r) (hf : CallD X.K r f) (hg : Gl X x) (hm : X.mg x = none) (hv : bootBuiltins x = some (.builtin id)) (ha : DA X W (a :: es) gs)
    (hn : x ≠ "__name__" := by decide) (hdb : (x == ("__debug__" : Str)) = false := by decide) (he : starEach (a :: es) X.env = (false, eval a X.env) :: starEach es X.env := by rfl) (hpl : (backTo pos (starEach es X.env)).any (·.1) = false := by rfl) :
    DE X W (.Call (.Name x p) (a :: es) [] pos) (gCB f gs) := pe_weak (pe_callB hc hg hm hv ha hn hdb he hpl) (tCB_of hf)
theorem de_callTy {x : Str} {p : Pos} {id : String} {r : List V → Hp → VK → Prop} {f : Sto → List D → Option D} (hc : CallR X (.type id) r) (hf : CallD X.K r f) (hg : Gl X x) (hm : X.mg x = none) (hv : bootBuiltins x = some (.type id)) (ha : DA X W (a :: es) gs)
    (hn : x ≠ "__name__" := by decide) (hdb : (x == ("__debug__" : Str)) = false := by decide) (he : starEach (a :: es) X.env = (false, eval a X.env) :: starEach es X.env := by rfl) (hpl : (backTo pos (starEach es X.env)).any (·.1) = false := by rfl) :
    DE X W (.Call (.Name x p) (a :: es) [] pos) (gCB f gs) := pe_weak (pe_callTy hc hg hm hv ha hn hdb he hpl) (tCB_of hf)
end
end DL
set_option maxHeartbeats 2000000
namespace DL
open PySem PySem.Spec L2

/-! ### the values' operators -/
def mulOk (i j : Int) : Bool := decide (i.natAbs.log2 + j.natAbs.log2 < 100000000)
def addD (_ : Sto) : D → D → Option D
  | .int i, .int j => some (.int (i + j))
  | .str a, .str b => if a.length + b.length ≤ line then some (.str (a ++ b)) else none
  | .lst a, .lst b => if a.length + b.length ≤ line then some (.lst (a ++ b)) else none
  | .tup (a :: r), .tup b => if (a :: r).length + b.length ≤ line then some (.tup ((a :: r) ++ b)) else none
  | _, _ => none
def subD (_ : Sto) : D → D → Option D
  | .int i, .int j => some (.int (i - j))
  | _, _ => none
def mulD (_ : Sto) : D → D → Option D
  | .int i, .int j => if mulOk i j = true then some (.int (i * j)) else none
  | _, _ => none
def divOk (j : Int) : Bool := decide (0 < j ∧ j.natAbs.log2 < 9000)
def fdivD (_ : Sto) : D → D → Option D
  | .int i, .int j => if divOk j = true then some (.int (i / j)) else none
  | _, _ => none
def modD (_ : Sto) : D → D → Option D
  | .int i, .int j => if 0 < j then some (.int (i % j)) else none
  | _, _ => none
def powOk (i j : Int) : Bool := decide (0 ≤ j ∧ j ≤ 1000000 ∧ i.natAbs < 2 ^ 64)
def powD (_ : Sto) : D → D → Option D
  | .int i, .int j => if powOk i j = true then some (.int (i ^ j.toNat)) else none
  | _, _ => none
def cmpD (p : Int → Int → Bool) (_ : Sto) : D → D → Option D
  | .int i, .int j => some (.bl (p i j))
  | _, _ => none
abbrev ltD : Sto → D → D → Option D := cmpD fun i j => decide (i < j)
abbrev leD : Sto → D → D → Option D := cmpD fun i j => decide (i ≤ j)
abbrev gtD : Sto → D → D → Option D := cmpD fun i j => decide (j < i)
abbrev geD : Sto → D → D → Option D := cmpD fun i j => decide (j ≤ i)
/-- a is None, True, False -/
def isD (_ : Sto) : D → D → Option D
  | .non, .non => some (.bl true)
  | .bl a, .bl b => some (.bl (a == b))
  | _, .non => some (.bl false)
  | _, .bl _ => some (.bl false)
  | _, _ => none
def negD (_ : Sto) : D → Option D
  | .int i => some (.int (-i))
  | _ => none
/-! data as the library's data -/
mutual
def toP : D → Option PyData
  | .non => some .none
  | .bl b => some (.bool b)
  | .int i => some (.int i)
  | .str x => some (.str x)
  | .tup xs => (toPs xs).map .tuple
  | .lst xs => (toPs xs).map .list
  | .scr _ => none
  | .ref _ => none
  | .ty _ => none
def toPs : List D → Option (List PyData)
  | [] => some []
  | d :: ds => match toP d, toPs ds with
    | some p, some ps => some (p :: ps)
    | _, _ => none
end
def eqP (a b : D) : Option Bool := match toP a, toP b with
  | some p, some q => if SeqAt.shaped p = true ∧ SeqAt.shaped q = true then some (PyData.eqv p q) else none
  | _, _ => none
def eqD (_ : Sto) (a b : D) : Option D := (eqP a b).map .bl
def neD (_ : Sto) (a b : D) : Option D := (eqP a b).map fun k => .bl (!k)
/-- a flat value -/
def flat : D → Option V
  | .non => some .non
  | .bl b => some (.bl b)
  | .int i => some (.int i)
  | .str x => some (.str x)
  | _ => none
def flats : List D → Option (List V)
  | [] => some []
  | d :: ds => match flat d, flats ds with
    | some v, some vs => some (v :: vs)
    | _, _ => none
def inP (a b : D) : Option Bool := match flat a, (match b with | .lst ds => flats ds | .tup ds => flats ds | _ => none) with
  | some v, some vs => some (inV v vs)
  | _, _ => none
def inD (_ : Sto) (a b : D) : Option D := (inP a b).map .bl
def ninD (_ : Sto) (a b : D) : Option D := (inP a b).map fun k => .bl (!k)

section
variable {X : Cx}
theorem opd_ints {r : R2} {f : Sto → D → D → Option D} (h : ∀ (S : Sto) (a b d : D), f S a b = some d → ∃ i j, a = .int i ∧ b = .int j ∧ ∀ (x y : V) (H : Hp) (Q : VK), (∀ v, (∀ α F, Rep X.K α F d v) → Q v H) → r (.int i) (.int j) H Q) : OpD X.K r f := by
  intro α F S H x y a b d Q w ra rb e q
  obtain ⟨i, j, rfl, rfl, k⟩ := h S a b d e
  cases (show x = V.int i from ra)
  cases (show y = V.int j from rb)
  exact k (.int i) (.int j) H Q fun v hv => q v H α F (Ext.refl _ _ _ _).noO w (hv α F)
theorem OpD.or_left {K : PySem.W.Frag} {r r' : R2} {f : Sto → D → D → Option D} (h : OpD K r f) : OpD K (fun x y H Q => r x y H Q ∨ r' x y H Q) f := fun α F S H x y a b d Q w ra rb e q => .inl (h α F S H x y a b d Q w ra rb e q)
theorem mulOk_ok {i j : Int} (h : mulOk i j = true) : IntMulOk i j := by
  have h := of_decide_eq_true h
  have b : ∀ x : Int, Builtin.Int.intBits x ≤ x.natAbs.log2 + 1 := fun x => by
    unfold Builtin.Int.intBits
    split <;> omega
  have h1 := b i
  have h2 := b j
  have e : bitsLine = 134217728 := by decide
  unfold IntMulOk
  intro z
  rw [Bool.and_eq_true] at z
  have z2 := z.2
  unfold Builtin.Int.intTooBig at z2
  have z3 := of_decide_eq_true z2
  rw [e] at z3
  omega
def CMulD (i j : Int) : Prop := mulOk i j = true
theorem op_mulD : OpR X (binaryOp .Mult) (rI CMulD fun i j => .int (i * j)) := opI fun _ _ _ _ _ _ _ hc q => PyProof.Rows.mul_int q (mulOk_ok hc)
theorem iop_mulD : OpR X (inplaceOp .Mult) (rI CMulD fun i j => .int (i * j)) := opI fun _ _ _ _ _ _ _ hc q => PyProof.Rows.imul_int q (mulOk_ok hc)
def CDivD (_ j : Int) : Prop := divOk j = true
theorem op_fdivD : OpR X (binaryOp .FloorDiv) (rI CDivD fun i j => .int (i / j)) := opI fun i j _ _ _ _ _ hc q => by
  have hc := of_decide_eq_true hc
  have h1 : (0 : Int) < j := hc.1
  exact PyProof.Rows.floordiv_int (by omega) (by rw [Int.fdiv_eq_ediv_of_nonneg i (by omega)]; exact q) (.inl (PyProof.noPylong_of_log2 hc.2))
theorem iop_fdivD : OpR X (inplaceOp .FloorDiv) (rI CDivD fun i j => .int (i / j)) := opI fun i j _ _ _ _ _ hc q => by
  have hc := of_decide_eq_true hc
  have h1 : (0 : Int) < j := hc.1
  exact PyProof.Rows.ifloordiv_int (by omega) (by rw [Int.fdiv_eq_ediv_of_nonneg i (by omega)]; exact q) (.inl (PyProof.noPylong_of_log2 hc.2))
abbrev rAddA (K : PySem.W.Frag) : R2 := fun x y H Q => rI0 (fun i j => V.int (i + j)) x y H Q ∨ (fun (x y : V) (H : Hp) (Q : VK) => (∃ i j, x = V.str i ∧ y = V.str j ∧ i.length + j.length ≤ sizeLine ∧ Q (.str (i ++ j)) H) ∨ (fun (x y : V) (H : Hp) (Q : VK) => rCat x y H Q ∨ rCatT K x y H Q) x y H Q) x y H Q
theorem op_addA : OpR X (binaryOp .Add) (rAddA X.K) := op_add.or (op_add_str.or (op_cat.or op_catT))
theorem opd_add : OpD X.K (rAddA X.K) addD := by
  intro α F S H x y a b d Q w ra rb e q
  have done : ∀ v, Rep X.K α F d v → Q v H := fun v r => q v H α F (Ext.refl _ _ _ _).noO w r
  unfold addD at e
  split at e
  · rename_i i j
    cases e
    cases (show x = V.int i from ra)
    cases (show y = V.int j from rb)
    exact .inl ⟨i, j, rfl, rfl, done _ rfl⟩
  · rename_i i j
    split at e
    · rename_i hl
      cases e
      cases (show x = V.str i from ra)
      cases (show y = V.str j from rb)
      exact .inr (.inl ⟨i, j, rfl, rfl, by rw [line_eq]; exact hl, done _ rfl⟩)
    · cases e
  · rename_i xs ys
    split at e
    · rename_i hl
      cases e
      obtain ⟨p, vs, rfl, h1, r1⟩ := ra
      obtain ⟨p', ws, rfl, h2, r2⟩ := rb
      refine .inr (.inr (.inl ⟨p, p', vs, ws, rfl, rfl, w.sub _ _ h1, w.sub _ _ h2, by rw [line_eq, ← r1.length, ← r2.length]; exact hl, fun t ht => ?_⟩))
      obtain ⟨x', w', e'⟩ := ext_new (o := .lst (vs ++ ws)) w ht
      exact q _ _ _ _ x' w' ⟨t, vs ++ ws, rfl, e', mono_A.up x' (r1.append r2)⟩
    · cases e
  · rename_i z xs ys
    split at e
    · rename_i hl
      cases e
      obtain ⟨p, vs, rfl, h1, r1⟩ := ra
      obtain ⟨p', ws, rfl, h2, r2⟩ := rb
      have hne : vs ≠ [] := fun h => by
        have := r1.length
        rw [h] at this
        simp at this
      have s1 := SqT.up h1 w.sub
      refine .inr (.inr (.inr ⟨p, p', vs, ws, rfl, rfl, s1, SqT.up h2 w.sub, hne, by rw [line_eq, ← r1.length, ← r2.length]; exact hl, ?_⟩))
      have fin : ∀ t, H t = none → Q (.ref t) (upd H t (.tup (vs ++ ws))) := fun t ht => by
        obtain ⟨x', w', e'⟩ := ext_new (o := .tup (vs ++ ws)) w ht
        exact q _ _ _ _ x' w' ⟨t, vs ++ ws, rfl, .inl e', mono_A.up x' (r1.append r2)⟩
      first
        | exact ⟨fun e => by subst e; exact done _ ⟨p, vs, rfl, h1, by have := r1.append r2; simpa using this⟩, fun _ => fin⟩
        | (refine ⟨fun e => ?_, fun e t ht => fin t ht⟩
           subst e
           exact done _ ⟨p, vs, rfl, h1, by have := r1.append r2; simpa using this⟩)
    · cases e
  · cases e
theorem opd_sub : OpD X.K (rI0 fun i j => V.int (i - j)) subD := opd_ints fun S a b d e => by
  unfold subD at e
  split at e
  · rename_i i j
    cases e
    exact ⟨i, j, rfl, rfl, fun _ _ H Q k => ⟨i, j, rfl, rfl, k _ fun _ _ => rfl⟩⟩
  · cases e
theorem opd_mul : OpD X.K (rI CMulD fun i j => V.int (i * j)) mulD := opd_ints fun S a b d e => by
  unfold mulD at e
  split at e
  · rename_i i j
    split at e
    · rename_i h
      cases e
      exact ⟨i, j, rfl, rfl, fun _ _ H Q k => ⟨i, j, rfl, rfl, h, k _ fun _ _ => rfl⟩⟩
    · cases e
  · cases e
theorem opd_fdiv : OpD X.K (rI CDivD fun i j => V.int (i / j)) fdivD := opd_ints fun S a b d e => by
  unfold fdivD at e
  split at e
  · rename_i i j
    split at e
    · rename_i h
      cases e
      exact ⟨i, j, rfl, rfl, fun _ _ H Q k => ⟨i, j, rfl, rfl, h, k _ fun _ _ => rfl⟩⟩
    · cases e
  · cases e
theorem opd_mod : OpD X.K (rI (fun _ j => 0 < j) fun i j => V.int (i % j)) modD := opd_ints fun S a b d e => by
  unfold modD at e
  split at e
  · rename_i i j
    split at e
    · rename_i h
      cases e
      exact ⟨i, j, rfl, rfl, fun _ _ H Q k => ⟨i, j, rfl, rfl, h, k _ fun _ _ => rfl⟩⟩
    · cases e
  · cases e
theorem opd_pow : OpD X.K (rI CPow fun i j => V.int (i ^ j.toNat)) powD := opd_ints fun S a b d e => by
  unfold powD at e
  split at e
  · rename_i i j
    split at e
    · rename_i h
      cases e
      have h' : 0 ≤ j ∧ j ≤ 1000000 ∧ i.natAbs < 2 ^ 64 := of_decide_eq_true h
      exact ⟨i, j, rfl, rfl, fun _ _ H Q k => ⟨i, j, rfl, rfl, h', k _ fun _ _ => rfl⟩⟩
    · cases e
  · cases e
theorem opd_cmp (p : Int → Int → Bool) : OpD X.K (rI0 fun i j => V.bl (p i j)) (cmpD p) := opd_ints fun S a b d e => by
  unfold cmpD at e
  split at e
  · rename_i i j
    cases e
    exact ⟨i, j, rfl, rfl, fun _ _ H Q k => ⟨i, j, rfl, rfl, k _ fun _ _ => rfl⟩⟩
  · cases e
theorem und_neg : UnD X.K (rU fun i => V.int (-i)) negD := by
  intro α F S H x a d Q w ra e q
  unfold negD at e
  split at e
  · rename_i i
    cases e
    cases (show x = V.int i from ra)
    exact ⟨i, rfl, q _ H α F (Ext.refl _ _ _ _).noO w rfl⟩
  · cases e
/-! identity with None, True, False -/
def isVal (x : V) (y : V) : Bool := decide (x = y)
def rIsC : R2 := fun x y H Q => (y = .non ∨ ∃ b, y = .bl b) ∧ Q (.bl (decide (x = y))) H
theorem op_isC : OpR X (compareOp .Is) rIsC := by
  intro pins s σ H x y v u Q I rx ry h
  obtain ⟨hy, q⟩ := h
  have hp : plainIs v u = true ∧ (v == u) = decide (x = y) := by
    rcases hy with rfl | ⟨b, rfl⟩
    · cases ry
      refine ⟨?_, rx.none_iff⟩
      cases x with
      | non => cases rx; rfl
      | bl _ => cases rx; rfl
      | int _ => obtain ⟨t, rfl⟩ := rx; rfl
      | str _ => obtain ⟨t, rfl⟩ := rx; rfl
      | byt _ => obtain ⟨t, rfl⟩ := rx; rfl
      | flt _ => obtain ⟨t, rfl⟩ := rx; rfl
      | ref _ => cases rx; rfl
      | ty _ => cases rx; rfl
    · cases ry
      cases x with
      | non => cases rx; exact ⟨rfl, by simp⟩
      | bl c => cases rx; exact ⟨rfl, by cases b <;> cases c <;> simp⟩
      | int _ => obtain ⟨t, rfl⟩ := rx; exact ⟨rfl, by simp⟩
      | str _ => obtain ⟨t, rfl⟩ := rx; exact ⟨rfl, by simp⟩
      | byt _ => obtain ⟨t, rfl⟩ := rx; exact ⟨rfl, by simp⟩
      | flt _ => obtain ⟨t, rfl⟩ := rx; exact ⟨rfl, by simp⟩
      | ref _ => cases rx; exact ⟨rfl, by simp⟩
      | ty _ => cases rx; exact ⟨rfl, by simp⟩
  exact wpAny_is_plain hp.1 (fin_bl I q hp.2.symm)
def rIsNotC : R2 := fun x y H Q => (y = .non ∨ ∃ b, y = .bl b) ∧ Q (.bl (!decide (x = y))) H
def isnD (S : Sto) (a b : D) : Option D := (isD S a b).bind fun d => match d with | .bl k => some (.bl (!k)) | _ => none
theorem rep_flat {K : PySem.W.Frag} {α : List Addr} {F : Hp} : ∀ {d : D} {v u : V}, Rep K α F d v → flat d = some u → v = u
  | .non, _, _, h, e => by cases e; exact h
  | .bl _, _, _, h, e => by cases e; exact h
  | .int _, _, _, h, e => by cases e; exact h
  | .str _, _, _, h, e => by cases e; exact h
  | .tup _, _, _, _, e => by cases e
  | .lst _, _, _, _, e => by cases e
  | .scr _, _, _, _, e => by cases e
  | .ref _, _, _, _, e => by cases e
  | .ty _, _, _, _, e => by cases e
theorem rep_ref {K : PySem.W.Frag} {α : List Addr} {F : Hp} : ∀ {d : D} {v : V}, Rep K α F d v → flat d = none → (∃ a, v = .ref a) ∨ ∃ n, v = .ty n
  | .non, _, h, e => by cases e
  | .bl _, _, h, e => by cases e
  | .int _, _, h, e => by cases e
  | .str _, _, h, e => by cases e
  | .tup _, _, h, _ => by obtain ⟨a, _, e, _⟩ := h; exact .inl ⟨a, e⟩
  | .lst _, _, h, _ => by obtain ⟨a, _, e, _⟩ := h; exact .inl ⟨a, e⟩
  | .scr _, _, h, _ => by obtain ⟨a, e, _⟩ := h; exact .inl ⟨a, e⟩
  | .ref _, _, h, _ => by obtain ⟨a, _, e⟩ := h; exact .inl ⟨a, e⟩
  | .ty n, _, h, _ => .inr ⟨n, h⟩
theorem isD_of {S : Sto} {K : PySem.W.Frag} {α : List Addr} {F : Hp} {a b d : D} {x y : V} (ra : Rep K α F a x) (rb : Rep K α F b y) (e : isD S a b = some d) : (y = .non ∨ ∃ b, y = .bl b) ∧ d = .bl (decide (x = y)) := by
  have hb : (b = .non ∧ y = .non) ∨ ∃ k, b = .bl k ∧ y = .bl k := by
    cases b with
    | non => exact .inl ⟨rfl, rb⟩
    | bl k => exact .inr ⟨k, rfl, rb⟩
    | _ => cases a <;> simp [isD] at e
  rcases hb with ⟨rfl, rfl⟩ | ⟨k, rfl, rfl⟩
  · refine ⟨.inl rfl, ?_⟩
    cases hf : flat a with
    | none =>
      rcases rep_ref ra hf with ⟨p, rfl⟩ | ⟨p, rfl⟩ <;> cases a <;> simp [flat] at hf <;> simp [isD] at e <;> rw [← e] <;> simp
    | some u =>
      have := rep_flat ra hf
      subst this
      cases a <;> simp [flat] at hf <;> subst hf <;> simp [isD] at e <;> rw [← e] <;> simp
  · refine ⟨.inr ⟨k, rfl⟩, ?_⟩
    cases hf : flat a with
    | none =>
      rcases rep_ref ra hf with ⟨p, rfl⟩ | ⟨p, rfl⟩ <;> cases a <;> simp [flat] at hf <;> simp [isD] at e <;> rw [← e] <;> simp
    | some u =>
      have := rep_flat ra hf
      subst this
      cases a <;> simp [flat] at hf <;> subst hf <;> simp [isD] at e <;> rw [← e] <;> simp [Bool.beq_eq_decide_eq]
theorem opd_is : OpD X.K rIsC isD := by
  intro α F S H x y a b d Q w ra rb e q
  obtain ⟨h1, rfl⟩ := isD_of ra rb e
  exact ⟨h1, q _ H α F (Ext.refl _ _ _ _).noO w rfl⟩
theorem op_isNotC : OpR X (compareOp .IsNot) rIsNotC := by
  intro pins s σ H x y v u Q I rx ry h
  obtain ⟨hy, q⟩ := h
  have hp : plainIs v u = true ∧ (v == u) = decide (x = y) := by
    rcases hy with rfl | ⟨b, rfl⟩
    · cases ry
      refine ⟨?_, rx.none_iff⟩
      cases x with
      | non => cases rx; rfl
      | bl _ => cases rx; rfl
      | int _ => obtain ⟨t, rfl⟩ := rx; rfl
      | str _ => obtain ⟨t, rfl⟩ := rx; rfl
      | byt _ => obtain ⟨t, rfl⟩ := rx; rfl
      | flt _ => obtain ⟨t, rfl⟩ := rx; rfl
      | ref _ => cases rx; rfl
      | ty _ => cases rx; rfl
    · cases ry
      cases x with
      | non => cases rx; exact ⟨rfl, by simp⟩
      | bl c => cases rx; exact ⟨rfl, by cases b <;> cases c <;> simp⟩
      | int _ => obtain ⟨t, rfl⟩ := rx; exact ⟨rfl, by simp⟩
      | str _ => obtain ⟨t, rfl⟩ := rx; exact ⟨rfl, by simp⟩
      | byt _ => obtain ⟨t, rfl⟩ := rx; exact ⟨rfl, by simp⟩
      | flt _ => obtain ⟨t, rfl⟩ := rx; exact ⟨rfl, by simp⟩
      | ref _ => cases rx; exact ⟨rfl, by simp⟩
      | ty _ => cases rx; exact ⟨rfl, by simp⟩
  exact wpAny_isNot_plain hp.1 (fin_bl I q (by rw [hp.2]))
theorem opd_isn : OpD X.K rIsNotC isnD := by
  intro α F S H x y a b d Q w ra rb e q
  unfold isnD at e
  cases h : isD S a b with
  | none => rw [h] at e; cases e
  | some d' =>
    rw [h] at e
    obtain ⟨h1, rfl⟩ := isD_of ra rb h
    cases e
    exact ⟨h1, q _ H α F (Ext.refl _ _ _ _).noO w rfl⟩
/-! == of data -/
mutual
theorem dp_of {K : PySem.W.Frag} {α : List Addr} {F H : Hp} (hs : ∀ a o, F a = some o → H a = some o) : ∀ {d : D} {v : V} {p : PyData}, Rep K α F d v → toP d = some p → Dp K H v p
  | .non, _, _, h, e => by cases e; cases (show _ = V.non from h); exact .non
  | .bl b, _, _, h, e => by cases e; cases (show _ = V.bl b from h); exact .bl b
  | .int i, _, _, h, e => by cases e; cases (show _ = V.int i from h); exact .int i
  | .str x, _, _, h, e => by cases e; cases (show _ = V.str x from h); exact .str x
  | .tup ds, _, _, h, e => by
    obtain ⟨a, vs, rfl, q, r⟩ := h
    unfold toP at e
    cases z : toPs ds with
    | none => rw [z] at e; cases e
    | some ps => rw [z] at e; cases e; exact .tup (SqT.up q hs) (dps_of hs r z)
  | .lst ds, _, _, h, e => by
    obtain ⟨a, vs, rfl, q, r⟩ := h
    unfold toP at e
    cases z : toPs ds with
    | none => rw [z] at e; cases e
    | some ps => rw [z] at e; cases e; exact .lst (.inl (.inl (hs _ _ q))) (dps_of hs r z)
  | .scr _, _, _, _, e => by cases e
  | .ref _, _, _, _, e => by cases e
  | .ty _, _, _, _, e => by cases e
theorem dps_of {K : PySem.W.Frag} {α : List Addr} {F H : Hp} (hs : ∀ a o, F a = some o → H a = some o) : ∀ {ds : List D} {vs : List V} {ps : List PyData}, Reps K α F ds vs → toPs ds = some ps → DpAll K H vs ps
  | [], _, _, h, e => by cases e; cases (show _ = [] from h); exact .nil
  | d :: ds, _, _, h, e => by
    obtain ⟨v, r, rfl, h1, h2⟩ := h
    unfold toPs at e
    cases z : toP d with
    | none => rw [z] at e; cases e
    | some p =>
      rw [z] at e
      cases z2 : toPs ds with
      | none => rw [z2] at e; cases e
      | some ps => rw [z2] at e; cases e; exact .cons (dp_of hs h1 z) (dps_of hs h2 z2)
end
theorem eqP_of {K : PySem.W.Frag} {α : List Addr} {F H : Hp} {a b : D} {x y : V} {k : Bool} (hs : ∀ a o, F a = some o → H a = some o) (ra : Rep K α F a x) (rb : Rep K α F b y) (e : eqP a b = some k) :
    ∃ p q, Dp K H x p ∧ Dp K H y q ∧ SeqAt.shaped p = true ∧ SeqAt.shaped q = true ∧ PyData.eqv p q = k := by
  unfold eqP at e
  cases z : toP a with
  | none => rw [z] at e; cases e
  | some p =>
    rw [z] at e
    cases z2 : toP b with
    | none => rw [z2] at e; cases e
    | some q =>
      rw [z2] at e
      dsimp only at e
      split at e
      · rename_i h
        cases e
        exact ⟨p, q, dp_of hs ra z, dp_of hs rb z2, h.1, h.2, rfl⟩
      · cases e
theorem opd_eq : OpD X.K (rEqD X.K) eqD := by
  intro α F S H x y a b d Q w ra rb e q
  unfold eqD at e
  cases z : eqP a b with
  | none => rw [z] at e; cases e
  | some k =>
    rw [z] at e
    cases e
    obtain ⟨p, q', h1, h2, h3, h4, h5⟩ := eqP_of w.sub ra rb z
    exact ⟨p, q', h1, h2, h3, h4, by rw [h5]; exact q _ H α F (Ext.refl _ _ _ _).noO w rfl⟩
theorem opd_ne : OpD X.K (rNeD X.K) neD := by
  intro α F S H x y a b d Q w ra rb e q
  unfold neD at e
  cases z : eqP a b with
  | none => rw [z] at e; cases e
  | some k =>
    rw [z] at e
    cases e
    obtain ⟨p, q', h1, h2, h3, h4, h5⟩ := eqP_of w.sub ra rb z
    exact ⟨p, q', h1, h2, h3, h4, by rw [h5]; exact q _ H α F (Ext.refl _ _ _ _).noO w rfl⟩
/-! in -/
theorem flatV_of : ∀ {d : D} {v : V}, flat d = some v → flatV v = true
  | .non, _, e => by cases e; rfl
  | .bl _, _, e => by cases e; rfl
  | .int _, _, e => by cases e; rfl
  | .str _, _, e => by cases e; rfl
  | .tup _, _, e => by cases e
  | .lst _, _, e => by cases e
  | .scr _, _, e => by cases e
  | .ref _, _, e => by cases e
  | .ty _, _, e => by cases e
theorem flats_of {K : PySem.W.Frag} {α : List Addr} {F : Hp} : ∀ {ds : List D} {vs us : List V}, Reps K α F ds vs → flats ds = some us → vs = us ∧ us.all flatV = true
  | [], _, _, h, e => by cases e; exact ⟨h, rfl⟩
  | d :: ds, _, _, h, e => by
    obtain ⟨v, r, rfl, h1, h2⟩ := h
    unfold flats at e
    cases z : flat d with
    | none => rw [z] at e; cases e
    | some u =>
      rw [z] at e
      cases z2 : flats ds with
      | none => rw [z2] at e; cases e
      | some us =>
        rw [z2] at e
        cases e
        obtain ⟨q1, q2⟩ := flats_of h2 z2
        rw [rep_flat h1 z, q1]
        exact ⟨rfl, by rw [List.all_cons, flatV_of z, q2]; rfl⟩
theorem inP_of {K : PySem.W.Frag} {α : List Addr} {F H : Hp} {a b : D} {x y : V} {k : Bool} (hs : ∀ a o, F a = some o → H a = some o) (ra : Rep K α F a x) (rb : Rep K α F b y) (e : inP a b = some k) :
    ∃ p xs, y = .ref p ∧ (SqL K H p xs ∨ SqT K H p xs) ∧ flatV x = true ∧ xs.all flatV = true ∧ inV x xs = k := by
  unfold inP at e
  cases z : flat a with
  | none => rw [z] at e; cases e
  | some v =>
    rw [z] at e
    have hx := rep_flat ra z
    subst hx
    cases b with
    | lst ds =>
      obtain ⟨p, vs, rfl, q, r⟩ := rb
      dsimp only at e
      cases z2 : flats ds with
      | none => rw [z2] at e; cases e
      | some us =>
        rw [z2] at e
        cases e
        obtain ⟨rfl, h2⟩ := flats_of r z2
        exact ⟨p, vs, rfl, .inl (.inl (.inl (hs _ _ q))), flatV_of z, h2, rfl⟩
    | tup ds =>
      obtain ⟨p, vs, rfl, q, r⟩ := rb
      dsimp only at e
      cases z2 : flats ds with
      | none => rw [z2] at e; cases e
      | some us =>
        rw [z2] at e
        cases e
        obtain ⟨rfl, h2⟩ := flats_of r z2
        exact ⟨p, vs, rfl, .inr (SqT.up q hs), flatV_of z, h2, rfl⟩
    | _ => cases e
theorem opd_in : OpD X.K (rIn X.K false) inD := by
  intro α F S H x y a b d Q w ra rb e q
  unfold inD at e
  cases z : inP a b with
  | none => rw [z] at e; cases e
  | some k =>
    rw [z] at e
    cases e
    obtain ⟨p, xs, h1, h2, h3, h4, h5⟩ := inP_of w.sub ra rb z
    exact ⟨p, xs, h1, h2, h3, h4, by rw [if_neg (by decide), h5]; exact q _ H α F (Ext.refl _ _ _ _).noO w rfl⟩
theorem opd_nin : OpD X.K (rIn X.K true) ninD := by
  intro α F S H x y a b d Q w ra rb e q
  unfold ninD at e
  cases z : inP a b with
  | none => rw [z] at e; cases e
  | some k =>
    rw [z] at e
    cases e
    obtain ⟨p, xs, h1, h2, h3, h4, h5⟩ := inP_of w.sub ra rb z
    exact ⟨p, xs, h1, h2, h3, h4, by rw [if_pos rfl, h5]; exact q _ H α F (Ext.refl _ _ _ _).noO w rfl⟩
end
end DL
set_option maxHeartbeats 2000000
namespace DL
open PySem PySem.Spec L2

/-! ### places -/
theorem atI_rep {K : PySem.W.Frag} {α : List Addr} {F : Hp} {ds : List D} {vs : List V} {i : Int} {d : D} (r : Reps K α F ds vs) (h : atI ds i = some d) : ∃ v, atI vs i = some v ∧ Rep K α F d v := by
  unfold atI at h ⊢
  rw [← r.length]
  cases e : ixN ds.length i with
  | none => rw [e] at h; cases h
  | some j => rw [e] at h; exact r.get h
def lstAt (S : Sto) (n : Nat) : Option (List D) := match S[n]? with
  | some (.lst ds) => some ds
  | _ => none
def ixD (S : Sto) : D → D → Option D
  | .lst ds, .int i => atI ds i
  | .tup ds, .int i => atI ds i
  | .str z, .int i => if z.length ≤ line then (atI z.cps.toList i).map fun c => .str ⟨#[c]⟩ else none
  | .ref n, .int i => (lstAt S n).bind fun ds => atI ds i
  | _, _ => none
theorem lstAt_of {S : Sto} {n : Nat} {ds : List D} (h : lstAt S n = some ds) : S[n]? = some (.lst ds) := by
  unfold lstAt at h
  split at h
  · rename_i e
    cases h
    exact e
  · cases h
def cutG {α : Type} (xs : List α) (lo hi : Option Int) : List α := (xs.drop (HT.sIx xs.length 0 lo)).take (HT.sIx xs.length xs.length hi - HT.sIx xs.length 0 lo)
theorem cut_rep {K : PySem.W.Frag} {α : List Addr} {F : Hp} {ds : List D} {vs : List V} {lo hi : Option Int} (r : Reps K α F ds vs) : Reps K α F (cutG ds lo hi) (cutV vs lo hi) := by
  unfold cutG cutV
  rw [← r.length]
  exact Reps.take _ (Reps.drop _ r)
def wholeT (n : Nat) (lo hi : Option Int) : Bool := decide (HT.sIx n 0 lo = 0 ∧ HT.sIx n n hi = n)
def sliceD (S : Sto) (lo hi : Option Int) : D → Option D
  | .lst ds => some (.lst (cutG ds lo hi))
  | .tup ds => if wholeT ds.length lo hi = true then none else some (.tup (cutG ds lo hi))
  | .str z => if z.length ≤ line then some (.str (cutS z lo hi)) else none
  | .scr ns => some (.lst ((cutG ns lo hi).map .int))
  | .ref n => (lstAt S n).map fun ds => .lst (cutG ds lo hi)
  | _ => none
section
variable {X : Cx} {W : WX} {a b : Expr} {ga gb : GE} {pos p2 : Pos}
theorem opd_ix : OpD X.K (rIx X.K) ixD := by
  intro α F S H x y a b d Q w ra rb e q
  have done : ∀ v, Rep X.K α F d v → Q v H := fun v r => q v H α F (Ext.refl _ _ _ _).noO w r
  unfold ixD at e
  split at e
  · rename_i ds i
    obtain ⟨p, vs, rfl, h1, r⟩ := ra
    cases (show y = V.int i from rb)
    obtain ⟨v, e1, r1⟩ := atI_rep r e
    exact .inl ⟨p, vs, i, v, rfl, rfl, .inl (.inl (w.sub _ _ h1)), e1, done v r1⟩
  · rename_i ds i
    obtain ⟨p, vs, rfl, h1, r⟩ := ra
    cases (show y = V.int i from rb)
    obtain ⟨v, e1, r1⟩ := atI_rep r e
    exact .inr (.inl ⟨p, vs, i, v, rfl, rfl, SqT.up h1 w.sub, e1, done v r1⟩)
  · rename_i z i
    split at e
    · rename_i hl
      cases (show x = V.str z from ra)
      cases (show y = V.int i from rb)
      cases q2 : atI z.cps.toList i with
      | none => rw [q2] at e; cases e
      | some c =>
        rw [q2] at e
        cases e
        exact .inr (.inr ⟨z, i, c, rfl, rfl, by rw [line_eq]; exact hl, q2, done _ rfl⟩)
    · cases e
  · rename_i n i
    cases q2 : lstAt S n with
    | none => rw [q2] at e; cases e
    | some ds =>
      rw [q2] at e
      obtain ⟨p, rfl, _, _, vs, hv, r⟩ := w.ref ra (lstAt_of q2)
      cases (show y = V.int i from rb)
      obtain ⟨v, e1, r1⟩ := atI_rep r e
      exact .inl ⟨p, vs, i, v, rfl, rfl, .inl (.inl hv), e1, done v r1⟩
  · cases e
theorem de_ix (ha : DE X W a ga) (hb : DE X W b gb) (hs : PlainIx b := by exact fun _ _ => rfl) : DE X W (.Subscript a b pos) (gOp ixD ga gb) := pe_weak (pe_ix ix_seq ha hb hs) (tOp_of opd_ix)
/-! ### slices -/
abbrev RO : List Addr → Hp → Hp → Option Int → Option Int → Prop := fun _ _ _ a b => a = b
theorem mono_O : Mono RO := ⟨fun _ h => h⟩
abbrev GO := Ev → Sto → Res (Option Int)
abbrev DO (X : Cx) (W : WX) (e : Option Expr) (g : GO) : Prop := PO X e (tG X.K W RO g)
def gNoPart : GO := fun _ S => .ok none S
def gPart (g : GE) : GO := fun e S => (g e S).bind fun a S1 => match a with
  | .int i => .ok (some i) S1
  | _ => .stuck
theorem do_none : DO X W none gNoPart := ⟨fun pins s σ H Q I h => po_none.run pins s σ H Q I (by
  obtain ⟨α, F, e, S, w, r, p⟩ := h
  exact p.ok w rfl)⟩
theorem do_some (h : DE X W a ga) : DO X W (some a) (gPart ga) := ⟨fun pins s σ H Q I q => (po_some h).run pins s σ H Q I (by
  refine (tG.at q).bind mono_true mono_D |>.mono fun x H1 ⟨a, α, F, e, S, w, re, ⟨_, ra⟩, p⟩ => ?_
  dsimp only at p
  split at p
  · exact ⟨_, ra, p.ok w rfl⟩
  · exact p.elim)⟩
def gSlice (g : GE) (gl gh : GO) : GE := fun e S => (g e S).bind fun a S1 => (gl e S1).bind fun l S2 => (gh e S2).bind fun h S3 => lift (sliceD S3 l h a) S3
abbrev rSlA (K : PySem.W.Frag) : V → Option Int → Option Int → Hp → VK → Prop := fun x lo hi H Q => rSlL K x lo hi H Q ∨ (fun (x : V) (lo hi : Option Int) (H : Hp) (Q : VK) => rSlT K x lo hi H Q ∨ rSlS x lo hi H Q) x lo hi H Q
theorem sl_all : SlR X (rSlA X.K) := sl_list.or (sl_tup.or sl_str)
theorem de_slice {lo hi : Option Expr} {gl gh : GO} (ha : DE X W a ga) (hl : DO X W lo gl) (hh : DO X W hi gh) : DE X W (.Subscript a (.Slice lo hi none p2) pos) (gSlice ga gl gh) := by
  refine pe_weak (pe_slice sl_all ha hl hh) fun σ H Q h => ?_
  refine (tG.at h).bind mono_true mono_D |>.mono fun x H1 ⟨a, h1⟩ => ?_
  refine h1.bind (mono_true.and mono_D a x) mono_O |>.mono fun l H2 ⟨l', h2⟩ => ?_
  refine h2.bind ((mono_true.and mono_D a x).and mono_O l' l) mono_O |>.mono fun u H3 ⟨u', α, F, e, S, w, re, ⟨⟨⟨_, ra⟩, rl⟩, ru⟩, p⟩ => ?_
  have el : l' = l := rl
  have eu : u' = u := ru
  subst el eu
  dsimp only at p
  cases q : sliceD S l' u' a with
  | none => rw [q] at p; exact p.elim
  | some d =>
    rw [q] at p
    have mk : ∀ (vs : List V) (ds : List D), d = .lst ds → (∀ t, H3 t = none → Reps X.K α (upd F t (.lst vs)) ds vs) → ∀ t, H3 t = none → Q (.ref t) (upd H3 t (.lst vs)) := fun vs ds ed hr t ht => by
      subst ed
      obtain ⟨x', w', e'⟩ := ext_new (o := .lst vs) w ht
      exact p _ _ _ _ x' w' ⟨t, vs, rfl, e', hr t ht⟩
    cases a with
    | lst ds =>
      cases q
      obtain ⟨a1, vs, rfl, h1, r⟩ := ra
      refine .inl ⟨a1, vs, rfl, .inl (.inl (w.sub _ _ h1)), mk _ _ rfl fun t ht => ?_⟩
      exact mono_A.up (ext_new (o := .lst (cutV vs l' u')) w ht).1 (cut_rep r)
    | tup ds =>
      unfold sliceD at q
      dsimp only at q
      split at q
      · cases q
      · rename_i hw
        cases q
        obtain ⟨a1, vs, rfl, h1, r⟩ := ra
        refine .inr (.inl ⟨a1, vs, rfl, SqT.up h1 w.sub, fun z => hw ?_, fun t ht => ?_⟩)
        · rw [← r.length] at z
          exact decide_eq_true z
        · obtain ⟨x', w', e'⟩ := ext_new (o := .tup (cutV vs l' u')) w ht
          exact p _ _ _ _ x' w' ⟨t, _, rfl, .inl e', mono_A.up x' (cut_rep r)⟩
    | str z =>
      unfold sliceD at q
      dsimp only at q
      split at q
      · rename_i hl
        cases q
        cases (show x = V.str z from ra)
        exact .inr (.inr ⟨z, rfl, by rw [line_eq]; exact hl, p.ok w rfl⟩)
      · cases q
    | scr ns =>
      cases q
      obtain ⟨a1, rfl, hq1⟩ := ra
      refine .inl ⟨a1, _, rfl, SqL.up hq1 w.sub, mk _ _ rfl fun t ht => ?_⟩
      have e : cutV (ns.map V.int) l' u' = (cutG ns l' u').map V.int := by
        unfold cutV cutG
        rw [List.length_map, ← List.map_drop, ← List.map_take]
      rw [e]
      exact Reps.of_ints _
    | ref n =>
      unfold sliceD at q
      dsimp only at q
      cases q2 : lstAt S n with
      | none => rw [q2] at q; cases q
      | some ds =>
        rw [q2] at q
        cases q
        obtain ⟨a1, rfl, _, _, vs, hv, r⟩ := w.ref ra (lstAt_of q2)
        refine .inl ⟨a1, vs, rfl, .inl (.inl hv), mk _ _ rfl fun t ht => ?_⟩
        exact mono_A.up (ext_new (o := .lst (cutV vs l' u')) w ht).1 (cut_rep r)
    | _ => cases q
/-! ### truth -/
def truD (S : Sto) : D → Option Bool
  | .non => some false
  | .bl b => some b
  | .int i => some (i != 0)
  | .str y => if y.length ≤ line then some ((y.length : Int) != 0) else none
  | .lst ds => some (!ds.isEmpty)
  | .tup ds => some (!ds.isEmpty)
  | .ref n => (lstAt S n).map fun ds => !ds.isEmpty
  | _ => none
theorem isEmpty_rep {K : PySem.W.Frag} {α : List Addr} {F : Hp} {ds : List D} {vs : List V} (r : Reps K α F ds vs) : ds.isEmpty = vs.isEmpty := by
  have := r.length
  cases ds <;> cases vs <;> simp at this ⊢
theorem tru_of {α : List Addr} {F H : Hp} {S : Sto} {a : D} {x : V} {k : Bool} {K : PySem.W.Frag} (w : Wd K α F S H) (ra : Rep K α F a x) (h : truD S a = some k) : TruV K x H k := by
  cases a with
  | non => cases (show x = V.non from ra); cases h; rfl
  | bl b => cases (show x = V.bl b from ra); cases h; rfl
  | int i => cases (show x = V.int i from ra); cases h; rfl
  | str y =>
    cases (show x = V.str y from ra)
    unfold truD at h
    dsimp only at h
    split at h
    · rename_i hl
      cases h
      exact ⟨by rw [line_eq]; exact hl, rfl⟩
    · cases h
  | lst ds =>
    obtain ⟨p, vs, rfl, h1, r⟩ := ra
    cases h
    exact .inl ⟨vs, .inl (.inl (w.sub _ _ h1)), by rw [isEmpty_rep r]⟩
  | tup ds =>
    obtain ⟨p, vs, rfl, h1, r⟩ := ra
    cases h
    exact .inr (.inl ⟨vs, SqT.up h1 w.sub, by rw [isEmpty_rep r]⟩)
  | ref n =>
    unfold truD at h
    dsimp only at h
    cases q2 : lstAt S n with
    | none => rw [q2] at h; cases h
    | some ds =>
      rw [q2] at h
      cases h
      obtain ⟨p, rfl, _, _, vs, hv, r⟩ := w.ref ra (lstAt_of q2)
      exact .inl ⟨vs, .inl (.inl hv), by show (!ds.isEmpty) = _; rw [isEmpty_rep r]⟩
  | _ => cases h
def gTru (g : GE) : GT := fun e S => (g e S).bind fun a S1 => lift (truD S1 a) S1
theorem dt_truth (ha : DE X W a ga) (he : ∀ whole, isTrue a X.env whole = (do let v ← whole; standAt a.pos; holding [v] (truthy v)) := by intro _; rfl) : DT X W a (gTru ga) := by
  refine pt_weak (pt_truth ha he) fun σ H Q h => ?_
  refine (tG.at h).bind mono_true mono_D |>.mono fun x H1 ⟨a, α, F, e, S, w, re, ⟨_, ra⟩, p⟩ => ?_
  dsimp only at p
  cases q : truD S a with
  | none => rw [q] at p; exact p.elim
  | some k =>
    rw [q] at p
    exact ⟨k, tru_of w ra q, p.ok w rfl⟩
end

/-! ### built-in functions -/
def lenD (S : Sto) : List D → Option D
  | [.lst ds] => some (.int ds.length)
  | [.tup ds] => some (.int ds.length)
  | [.str z] => if z.length ≤ line then some (.int z.length) else none
  | [.ref n] => (lstAt S n).map fun ds => .int ds.length
  | _ => none
def absD (_ : Sto) : List D → Option D
  | [.int i] => some (.int (if i < 0 then -i else i))
  | _ => none
def maxD (_ : Sto) : List D → Option D
  | [.int i, .int j] => some (.int (if j > i then j else i))
  | _ => none
def minD (_ : Sto) : List D → Option D
  | [.int i, .int j] => some (.int (if j < i then j else i))
  | _ => none
def max3D (_ : Sto) : List D → Option D
  | [.int i, .int j, .int k] => some (.int (if (if i < j then j else i) < k then k else (if i < j then j else i)))
  | _ => none
def intD (_ : Sto) : List D → Option D
  | [.int i] => some (.int i)
  | [.bl k] => some (.int (if k then 1 else 0))
  | _ => none
def intsD : List D → Option (List Int)
  | [] => some []
  | .int i :: r => (intsD r).map fun ns => i :: ns
  | _ => none
def sumD (S : Sto) : List D → Option D
  | [.lst ds] => (intsD ds).map fun ns => .int ns.sum
  | _ => none
def sortI (ns : List Int) : List Int := ns.mergeSort fun a b => decide (a ≤ b)
def sortedD (S : Sto) : List D → Option D
  | [.lst ds] => (intsD ds).map fun ns => .lst ((sortI ns).map .int)
  | _ => none
def listMinD (_ : Sto) : List D → Option D
  | [.lst ds] => (intsD ds).bind fun ns => ns.min?.map .int
  | _ => none
def listMaxD (_ : Sto) : List D → Option D
  | [.lst ds] => (intsD ds).bind fun ns => ns.max?.map .int
  | _ => none
def blsD : List D → Option (List Bool)
  | [] => some []
  | .bl i :: r => (blsD r).map fun ns => i :: ns
  | _ => none
def allD (_ : Sto) : List D → Option D
  | [.lst ds] => (blsD ds).map fun ns => .bl (ns.all id)
  | _ => none
def tupleD (S : Sto) : List D → Option D
  | [.lst ds] => some (.tup ds)
  | [.tup ds] => some (.tup ds)
  | [.ref n] => (lstAt S n).map fun ds => .tup ds
  | _ => none
def listD (S : Sto) : List D → Option D
  | [.lst ds] => some (.lst ds)
  | [.tup ds] => some (.lst ds)
  | [.ref n] => (lstAt S n).map fun ds => .lst ds
  | _ => none
/-- a value's built-in type -/
def tyOf (S : Sto) : D → Option String
  | .non => some "NoneType"
  | .bl _ => some "bool"
  | .int _ => some "int"
  | .str _ => some "str"
  | .tup _ => some "tuple"
  | .lst _ => some "list"
  | .ref n => (lstAt S n).map fun _ => "list"
  | _ => none
def subT (t T : String) : Option Bool := if T = "int" ∨ T = "bool" ∨ T = "str" ∨ T = "tuple" ∨ T = "list" then some (t == T || (t == "bool" && T == "int")) else none
def isiD (S : Sto) : List D → Option D
  | [a, .ty T] => (tyOf S a).bind fun t => (subT t T).map .bl
  | [a, .tup [.ty T, .ty U]] => (tyOf S a).bind fun t => (subT t T).bind fun k => (subT t U).map fun l => .bl (k || l)
  | _ => none
section
variable {X : Cx} {W : WX}
theorem intsD_eq : ∀ {ds : List D} {ns : List Int}, intsD ds = some ns → ds = ns.map .int
  | [], _, e => by cases e; rfl
  | .int i :: r, ns, e => by
    unfold intsD at e
    cases q : intsD r with
    | none => rw [q] at e; cases e
    | some ms => rw [q] at e; cases e; rw [intsD_eq q]; rfl
  | .non :: _, _, e => by cases e
  | .bl _ :: _, _, e => by cases e
  | .str _ :: _, _, e => by cases e
  | .tup _ :: _, _, e => by cases e
  | .lst _ :: _, _, e => by cases e
  | .scr _ :: _, _, e => by cases e
  | .ref _ :: _, _, e => by cases e
  | .ty _ :: _, _, e => by cases e
theorem intsD_map : ∀ (ns : List Int), intsD (ns.map .int) = some ns
  | [] => rfl
  | n :: ns => by simp [intsD, intsD_map ns]
theorem blsD_eq : ∀ {ds : List D} {ns : List Bool}, blsD ds = some ns → ds = ns.map .bl
  | [], _, e => by cases e; rfl
  | .bl i :: r, ns, e => by
    unfold blsD at e
    cases q : blsD r with
    | none => rw [q] at e; cases e
    | some ms => rw [q] at e; cases e; rw [blsD_eq q]; rfl
  | .non :: _, _, e => by cases e
  | .int _ :: _, _, e => by cases e
  | .str _ :: _, _, e => by cases e
  | .tup _ :: _, _, e => by cases e
  | .lst _ :: _, _, e => by cases e
  | .scr _ :: _, _, e => by cases e
  | .ref _ :: _, _, e => by cases e
  | .ty _ :: _, _, e => by cases e
theorem blsD_map : ∀ (ns : List Bool), blsD (ns.map .bl) = some ns
  | [] => rfl
  | n :: ns => by simp [blsD, blsD_map ns]
theorem Reps.bls {K : PySem.W.Frag} {α : List Addr} {F : Hp} : ∀ {ns : List Bool} {vs : List V}, Reps K α F (ns.map D.bl) vs → vs = ns.map V.bl
  | [], _, h => h
  | n :: ns, _, h => by
    obtain ⟨v, r, rfl, h1, h2⟩ := h
    have h1' : v = .bl n := h1
    rw [h1', Reps.bls h2]
    rfl
theorem reps1 {K : PySem.W.Frag} {α : List Addr} {F : Hp} {a : D} {xs : List V} (h : Reps K α F [a] xs) : ∃ x, xs = [x] ∧ Rep K α F a x := by
  obtain ⟨v, r, rfl, h1, h2⟩ := h
  cases (show r = [] from h2)
  exact ⟨v, rfl, h1⟩
theorem reps2 {K : PySem.W.Frag} {α : List Addr} {F : Hp} {a b : D} {xs : List V} (h : Reps K α F [a, b] xs) : ∃ x y, xs = [x, y] ∧ Rep K α F a x ∧ Rep K α F b y := by
  obtain ⟨v, r, rfl, h1, h2⟩ := h
  obtain ⟨u, rfl, h3⟩ := reps1 h2
  exact ⟨v, u, rfl, h1, h3⟩
theorem reps3 {K : PySem.W.Frag} {α : List Addr} {F : Hp} {a b c : D} {xs : List V} (h : Reps K α F [a, b, c] xs) : ∃ x y z, xs = [x, y, z] ∧ Rep K α F a x ∧ Rep K α F b y ∧ Rep K α F c z := by
  obtain ⟨v, r, rfl, h1, h2⟩ := h
  obtain ⟨u, t, rfl, h3, h4⟩ := reps2 h2
  exact ⟨v, u, t, rfl, h1, h3, h4⟩
abbrev rLenA (K : PySem.W.Frag) : List V → Hp → VK → Prop := fun xs H Q => ∃ x n, xs = [x] ∧ LenV K x H n ∧ Q (.int n) H
theorem cd_len : CallD X.K (rLenA X.K) lenD := by
  intro α F S H xs as d Q w rs e q
  have done : ∀ v, Rep X.K α F d v → Q v H := fun v r => q v H α F (Ext.refl _ _ _ _).noO w r
  unfold lenD at e
  split at e
  · rename_i ds
    cases e
    obtain ⟨x, rfl, a, vs, rfl, h1, r⟩ := reps1 rs
    exact ⟨_, ds.length, rfl, .inl ⟨vs, .inl (.inl (w.sub _ _ h1)), r.length⟩, done _ rfl⟩
  · rename_i ds
    cases e
    obtain ⟨x, rfl, a, vs, rfl, h1, r⟩ := reps1 rs
    exact ⟨_, ds.length, rfl, .inr ⟨vs, SqT.up h1 w.sub, r.length⟩, done _ rfl⟩
  · rename_i z
    split at e
    · rename_i hl
      cases e
      obtain ⟨x, rfl, rx⟩ := reps1 rs
      cases (show x = V.str z from rx)
      exact ⟨_, z.length, rfl, ⟨by rw [line_eq]; exact hl, rfl⟩, done _ rfl⟩
    · cases e
  · rename_i n
    cases q2 : lstAt S n with
    | none => rw [q2] at e; cases e
    | some ds =>
      rw [q2] at e
      cases e
      obtain ⟨x, rfl, rx⟩ := reps1 rs
      obtain ⟨p, rfl, _, _, vs, hv, r⟩ := w.ref rx (lstAt_of q2)
      exact ⟨_, ds.length, rfl, .inl ⟨vs, .inl (.inl hv), r.length⟩, done _ rfl⟩
  · cases e
theorem cd_abs : CallD X.K (fun xs H Q => ∃ i, xs = [.int i] ∧ Q (.int (if i < 0 then -i else i)) H) absD := by
  intro α F S H xs as d Q w rs e q
  unfold absD at e
  split at e
  · rename_i i
    cases e
    obtain ⟨x, rfl, rx⟩ := reps1 rs
    cases (show x = V.int i from rx)
    exact ⟨i, rfl, q _ H α F (Ext.refl _ _ _ _).noO w rfl⟩
  · cases e
theorem cd_max : CallD X.K (fun xs H Q => ∃ i j, xs = [.int i, .int j] ∧ Q (.int (if j > i then j else i)) H) maxD := by
  intro α F S H xs as d Q w rs e q
  unfold maxD at e
  split at e
  · rename_i i j
    cases e
    obtain ⟨x, y, rfl, rx, ry⟩ := reps2 rs
    cases (show x = V.int i from rx)
    cases (show y = V.int j from ry)
    exact ⟨i, j, rfl, q _ H α F (Ext.refl _ _ _ _).noO w rfl⟩
  · cases e
theorem cd_min : CallD X.K (fun xs H Q => ∃ i j, xs = [.int i, .int j] ∧ Q (.int (if j < i then j else i)) H) minD := by
  intro α F S H xs as d Q w rs e q
  unfold minD at e
  split at e
  · rename_i i j
    cases e
    obtain ⟨x, y, rfl, rx, ry⟩ := reps2 rs
    cases (show x = V.int i from rx)
    cases (show y = V.int j from ry)
    exact ⟨i, j, rfl, q _ H α F (Ext.refl _ _ _ _).noO w rfl⟩
  · cases e
theorem nuLt_int (i j : Int) : nuLt (.int i) (.int j) = some (decide (i < j)) := by
  first | rfl | (unfold nuLt nuCB; rfl)
theorem cd_max3 : CallD X.K (rNuC3 nuMax3) max3D := by
  intro α F S H xs as d Q w rs e q
  unfold max3D at e
  split at e
  · rename_i i j k
    cases e
    obtain ⟨x, y, z, rfl, rx, ry, rz⟩ := reps3 rs
    cases (show x = V.int i from rx)
    cases (show y = V.int j from ry)
    cases (show z = V.int k from rz)
    refine ⟨_, _, _, .int (if (if i < j then j else i) < k then k else (if i < j then j else i)), rfl, ?_, q _ H α F (Ext.refl _ _ _ _).noO w rfl⟩
    unfold nuMax3 nuMax2
    rw [nuLt_int]
    by_cases h1 : i < j
    · simp only [h1, decide_true, Option.map_some, if_true, Option.bind_some]
      rw [nuLt_int]
      by_cases h2 : j < k
      · simp [h2]
      · simp [h2]
    · simp only [h1, decide_false, Option.map_some, Bool.false_eq_true, if_false, Option.bind_some]
      rw [nuLt_int]
      by_cases h2 : i < k
      · simp [h2]
      · simp [h2]
  · cases e
theorem cd_int : CallD X.K (fun xs H Q => (∃ i, xs = [.int i] ∧ Q (.int i) H) ∨ ∃ k, xs = [.bl k] ∧ Q (.int (if k then 1 else 0)) H) intD := by
  intro α F S H xs as d Q w rs e q
  unfold intD at e
  split at e
  · rename_i i
    cases e
    obtain ⟨x, rfl, rx⟩ := reps1 rs
    cases (show x = V.int i from rx)
    exact .inl ⟨i, rfl, q _ H α F (Ext.refl _ _ _ _).noO w rfl⟩
  · rename_i i
    cases e
    obtain ⟨x, rfl, rx⟩ := reps1 rs
    cases (show x = V.bl i from rx)
    exact .inr ⟨i, rfl, q _ H α F (Ext.refl _ _ _ _).noO w rfl⟩
  · cases e
theorem cd_sum : CallD X.K (rSum X.K) sumD := by
  intro α F S H xs as d Q w rs e q
  unfold sumD at e
  split at e
  · rename_i ds
    cases q2 : intsD ds with
    | none => rw [q2] at e; cases e
    | some ns =>
      rw [q2] at e
      cases e
      obtain ⟨x, rfl, a, vs, rfl, h1, r⟩ := reps1 rs
      rw [intsD_eq q2] at r
      rw [r.ints] at h1
      exact ⟨a, ns, rfl, .inl (.inl (w.sub _ _ h1)), q _ H α F (Ext.refl _ _ _ _).noO w rfl⟩
  · cases e
theorem sortI_perm (ns : List Int) : (sortI ns).Perm ns := List.mergeSort_perm _ _
theorem sortI_pw (ns : List Int) : (sortI ns).Pairwise (· ≤ ·) := by
  have := List.pairwise_mergeSort (le := fun a b : Int => decide (a ≤ b)) (fun a b c h1 h2 => by simp only [decide_eq_true_eq] at *; omega) (fun a b => by simp only [Bool.or_eq_true, decide_eq_true_eq]; omega) ns
  exact this.imp fun h => of_decide_eq_true h
theorem sortI_same {ns ms : List Int} (p : ms.Perm ns) (h : ms.Pairwise (· ≤ ·)) : ms = sortI ns :=
  List.Perm.eq_of_pairwise (le := (· ≤ ·)) (fun a b _ _ h1 h2 => by omega) h (sortI_pw ns) (p.trans (sortI_perm ns).symm)
theorem cd_sorted : CallD X.K (rSortedI X.K) sortedD := by
  intro α F S H xs as d Q w rs e q
  unfold sortedD at e
  split at e
  · rename_i ds
    cases q2 : intsD ds with
    | none => rw [q2] at e; cases e
    | some ns =>
      rw [q2] at e
      cases e
      obtain ⟨x, rfl, a, vs, rfl, h1, r⟩ := reps1 rs
      rw [intsD_eq q2] at r
      rw [r.ints] at h1
      refine ⟨a, ns, rfl, .inl (.inl (w.sub _ _ h1)), fun ms p hp hs hn => ?_⟩
      rw [sortI_same hp hs]
      obtain ⟨x', w', e'⟩ := ext_new (o := .lst ((sortI ns).map V.int)) w hn
      exact q _ _ _ _ x' w' ⟨p, _, rfl, e', Reps.of_ints _⟩
  · cases e
theorem cd_all : CallD X.K (rAll X.K) allD := by
  intro α F S H xs as d Q w rs e q
  unfold allD at e
  split at e
  · rename_i ds
    cases q2 : blsD ds with
    | none => rw [q2] at e; cases e
    | some ns =>
      rw [q2] at e
      cases e
      obtain ⟨x, rfl, a, vs, rfl, h1, r⟩ := reps1 rs
      rw [blsD_eq q2] at r
      rw [r.bls] at h1
      exact ⟨a, ns, rfl, .inl (.inl (w.sub _ _ h1)), q _ H α F (Ext.refl _ _ _ _).noO w rfl⟩
  · cases e
theorem max_of {ns : List Int} {m : Int} (h : ns.max? = some m) : ∀ k, k ∈ ns → (∀ y, y ∈ ns → y ≤ k) → k = m := fun k hk hy => by
  have h' := List.max?_eq_some_iff.mp h
  have h1 := hy m h'.1
  have h2 := h'.2 k hk
  omega
theorem min_of {ns : List Int} {m : Int} (h : ns.min? = some m) : ∀ k, k ∈ ns → (∀ y, y ∈ ns → k ≤ y) → k = m := fun k hk hy => by
  have h' := List.min?_eq_some_iff.mp h
  have h1 := hy m h'.1
  have h2 := h'.2 k hk
  omega
theorem cd_lmax : CallD X.K (rMax X.K) listMaxD := by
  intro α F S H xs as d Q w rs e q
  unfold listMaxD at e
  split at e
  · rename_i ds
    cases q2 : intsD ds with
    | none => rw [q2] at e; cases e
    | some ns =>
      rw [q2] at e
      cases q3 : ns.max? with
      | none => simp [q3] at e
      | some m =>
        simp only [Option.bind_some, q3, Option.map_some, Option.some.injEq] at e
        subst e
        obtain ⟨x, rfl, a, vs, rfl, h1, r⟩ := reps1 rs
        rw [intsD_eq q2] at r
        rw [r.ints] at h1
        have hm := (List.max?_eq_some_iff.mp q3).1
        refine ⟨a, ns, rfl, .inl (.inl (w.sub _ _ h1)), List.length_pos_of_mem hm, fun k hk hy => ?_⟩
        rw [max_of q3 k hk hy]
        exact q _ H α F (Ext.refl _ _ _ _).noO w rfl
  · cases e
theorem cd_lmin : CallD X.K (rMin X.K) listMinD := by
  intro α F S H xs as d Q w rs e q
  unfold listMinD at e
  split at e
  · rename_i ds
    cases q2 : intsD ds with
    | none => rw [q2] at e; cases e
    | some ns =>
      rw [q2] at e
      cases q3 : ns.min? with
      | none => simp [q3] at e
      | some m =>
        simp only [Option.bind_some, q3, Option.map_some, Option.some.injEq] at e
        subst e
        obtain ⟨x, rfl, a, vs, rfl, h1, r⟩ := reps1 rs
        rw [intsD_eq q2] at r
        rw [r.ints] at h1
        have hm := (List.min?_eq_some_iff.mp q3).1
        refine ⟨a, ns, rfl, .inl (.inl (w.sub _ _ h1)), List.length_pos_of_mem hm, fun k hk hy => ?_⟩
        rw [min_of q3 k hk hy]
        exact q _ H α F (Ext.refl _ _ _ _).noO w rfl
  · cases e
abbrev rTupleA (K : PySem.W.Frag) : List V → Hp → VK → Prop := fun xs H Q => ∃ p ys, xs = [.ref p] ∧ ((SqL K H p ys ∧ ∀ l, H l = none → Q (.ref l) (upd H l (.tup ys))) ∨ (SqT K H p ys ∧ Q (.ref p) H))
theorem cd_tuple : CallD X.K (rTupleA X.K) tupleD := by
  intro α F S H xs as d Q w rs e q
  unfold tupleD at e
  split at e
  · rename_i ds
    cases e
    obtain ⟨x, rfl, a, vs, rfl, h1, r⟩ := reps1 rs
    refine ⟨a, vs, rfl, .inl ⟨.inl (.inl (w.sub _ _ h1)), fun l hl => ?_⟩⟩
    obtain ⟨x', w', e'⟩ := ext_new (o := .tup vs) w hl
    exact q _ _ _ _ x' w' ⟨l, vs, rfl, .inl e', mono_A.up x' r⟩
  · rename_i ds
    cases e
    obtain ⟨x, rfl, a, vs, rfl, h1, r⟩ := reps1 rs
    exact ⟨a, vs, rfl, .inr ⟨SqT.up h1 w.sub, q _ H α F (Ext.refl _ _ _ _).noO w ⟨a, vs, rfl, h1, r⟩⟩⟩
  · rename_i n
    cases q2 : lstAt S n with
    | none => rw [q2] at e; cases e
    | some ds =>
      rw [q2] at e
      cases e
      obtain ⟨x, rfl, rx⟩ := reps1 rs
      obtain ⟨p, rfl, _, _, vs, hv, r⟩ := w.ref rx (lstAt_of q2)
      refine ⟨p, vs, rfl, .inl ⟨.inl (.inl hv), fun l hl => ?_⟩⟩
      obtain ⟨x', w', e'⟩ := ext_new (o := .tup vs) w hl
      exact q _ _ _ _ x' w' ⟨l, vs, rfl, .inl e', mono_A.up x' r⟩
  · cases e
abbrev rListA (K : PySem.W.Frag) : List V → Hp → VK → Prop := fun xs H Q => ∃ p ys, xs = [.ref p] ∧ (SqL K H p ys ∨ SqT K H p ys) ∧ ∀ l, H l = none → Q (.ref l) (upd H l (.lst ys))
theorem cd_list : CallD X.K (rListA X.K) listD := by
  intro α F S H xs as d Q w rs e q
  unfold listD at e
  split at e
  · rename_i ds
    cases e
    obtain ⟨x, rfl, a, vs, rfl, h1, r⟩ := reps1 rs
    refine ⟨a, vs, rfl, .inl (.inl (.inl (w.sub _ _ h1))), fun l hl => ?_⟩
    obtain ⟨x', w', e'⟩ := ext_new (o := .lst vs) w hl
    exact q _ _ _ _ x' w' ⟨l, vs, rfl, e', mono_A.up x' r⟩
  · rename_i ds
    cases e
    obtain ⟨x, rfl, a, vs, rfl, h1, r⟩ := reps1 rs
    refine ⟨a, vs, rfl, .inr (SqT.up h1 w.sub), fun l hl => ?_⟩
    obtain ⟨x', w', e'⟩ := ext_new (o := .lst vs) w hl
    exact q _ _ _ _ x' w' ⟨l, vs, rfl, e', mono_A.up x' r⟩
  · rename_i n
    cases q2 : lstAt S n with
    | none => rw [q2] at e; cases e
    | some ds =>
      rw [q2] at e
      cases e
      obtain ⟨x, rfl, rx⟩ := reps1 rs
      obtain ⟨p, rfl, _, _, vs, hv, r⟩ := w.ref rx (lstAt_of q2)
      refine ⟨p, vs, rfl, .inl (.inl (.inl hv)), fun l hl => ?_⟩
      obtain ⟨x', w', e'⟩ := ext_new (o := .lst vs) w hl
      exact q _ _ _ _ x' w' ⟨l, vs, rfl, e', mono_A.up x' r⟩
  · cases e
/-! isinstance -/
theorem tyX_of {α : List Addr} {F H : Hp} {S : Sto} {K : PySem.W.Frag} {a : D} {x : V} {t : String} (w : Wd K α F S H) (ra : Rep K α F a x) (h : tyOf S a = some t) : TyX K H x (.type t) := by
  cases a with
  | non => cases (show x = V.non from ra); cases h; exact .base .non
  | bl b => cases (show x = V.bl b from ra); cases h; exact .base (.bl b)
  | int i => cases (show x = V.int i from ra); cases h; exact .base (.int i)
  | str y => cases (show x = V.str y from ra); cases h; exact .base (.str y)
  | tup ds =>
    obtain ⟨p, vs, rfl, h1, r⟩ := ra
    cases h
    rcases h1 with h1 | ⟨o, its, n, hk, hc, _⟩
    · exact .base (.tup (w.sub _ _ h1))
    · exact .kTuple hk hc
  | lst ds =>
    obtain ⟨p, vs, rfl, h1, r⟩ := ra
    cases h
    exact .base (.lst (w.sub _ _ h1))
  | ref n =>
    unfold tyOf at h
    dsimp only at h
    cases q2 : lstAt S n with
    | none => rw [q2] at h; cases h
    | some ds =>
      rw [q2] at h
      cases h
      obtain ⟨p, rfl, _, _, vs, hv, r⟩ := w.ref ra (lstAt_of q2)
      exact .base (.lst hv)
  | _ => cases h
theorem subT_ok {S : Sto} {a : D} {t T : String} {k : Bool} (h : tyOf S a = some t) (e : subT t T = some k) : kitB t T = some k := by
  have ht : t = "NoneType" ∨ t = "bool" ∨ t = "int" ∨ t = "str" ∨ t = "tuple" ∨ t = "list" := by
    cases a <;> simp [tyOf] at h
    case ref n => obtain ⟨_, _, rfl⟩ := h; simp
    all_goals subst h; simp
  unfold subT at e
  split at e
  · rename_i hT
    cases e
    rcases hT with rfl | rfl | rfl | rfl | rfl <;> rcases ht with rfl | rfl | rfl | rfl | rfl | rfl <;> decide +kernel
  · cases e
abbrev rIsiA (K : PySem.W.Frag) : List V → Hp → VK → Prop := fun xs H Q => rIsi K xs H Q ∨ (fun xs H Q => rIsiT K xs H Q ∨ rIsiK K xs H Q) xs H Q
theorem CallR.or {X : Cx} {f : Value} {r r' : List V → Hp → VK → Prop} (h : CallR X f r) (h' : CallR X f r') : CallR X f (fun xs H Q => r xs H Q ∨ r' xs H Q) := by
  intro pins s σ H xs us Q I rr q
  rcases q with q | q
  · exact h pins s σ H xs us Q I rr q
  · exact h' pins s σ H xs us Q I rr q
theorem call_isiA : CallR X (.builtin "isinstance") (rIsiA X.K) := CallR.or call_isi (CallR.or call_isiT call_isiK)
theorem kitAny_one {K : PySem.W.Frag} {t : Value} {c : Value} {b : Bool} (h : PySem.W.kitOne K t c = some b) : PySem.W.kitAny K t [c] = some b := by
  refine kitAny_cons h (fun e => ?_) fun e => e
  subst e
  rfl
theorem cd_isi : CallD X.K (rIsiA X.K) isiD := by
  intro α F S H xs as d Q w rs e q
  unfold isiD at e
  split at e
  · rename_i a T
    cases q1 : tyOf S a with
    | none => rw [q1] at e; cases e
    | some t =>
      rw [q1] at e
      cases q2 : subT t T with
      | none => simp [q2] at e
      | some k =>
        simp only [Option.bind_some, q2, Option.map_some, Option.some.injEq] at e
        subst e
        obtain ⟨x, y, rfl, rx, ry⟩ := reps2 rs
        cases (show y = V.ty T from ry)
        exact .inl ⟨x, .ty T, .type t, .type T, k, rfl, .ty T, tyX_of w rx q1, kit_ty (subT_ok q1 q2), q _ H α F (Ext.refl _ _ _ _).noO w rfl⟩
  · rename_i a T U
    cases q1 : tyOf S a with
    | none => rw [q1] at e; cases e
    | some t =>
      rw [q1] at e
      cases q2 : subT t T with
      | none => simp [q2] at e
      | some k =>
        cases q3 : subT t U with
        | none => simp [q2, q3] at e
        | some l =>
          simp only [Option.bind_some, q2, q3, Option.map_some, Option.some.injEq] at e
          subst e
          obtain ⟨x, y, rfl, rx, p, vs, rfl, h1, r⟩ := reps2 rs
          obtain ⟨v1, v2, rfl, r1, r2⟩ := reps2 r
          cases (show v1 = V.ty T from r1)
          cases (show v2 = V.ty U from r2)
          have kk : PySem.W.kitAny X.K (.type t) [.type T, .type U] = some (k || l) := by
            refine kitAny_cons (kit_ty (subT_ok q1 q2)) (fun e => ?_) (fun e => by rw [e]; rfl)
            rw [e]
            exact kitAny_one (kit_ty (subT_ok q1 q3))
          rcases h1 with h1 | ⟨o, its, n, hk, hc, hd, hz, hv⟩
          · exact .inr (.inl ⟨x, p, _, .type t, [.type T, .type U], (k || l), rfl, w.sub _ _ h1, .cons (.ty T) (.cons (.ty U) .nil), tyX_of w rx q1, kk, q _ H α F (Ext.refl _ _ _ _).noO w rfl⟩)
          · have ei : its.toList = [.type T, .type U] := by
              generalize its.toList = l at hv
              cases hv with
              | cons r3 r4 =>
                cases r4 with
                | cons r5 r6 =>
                  cases r6
                  cases r3
                  cases r5
                  rfl
            obtain ⟨oc, od, dt, sl⟩ := o
            simp only at hc hd
            subst hc hd
            refine .inr (.inr ⟨x, p, od, [.type T, .type U], n, sl, .type t, (k || l), rfl, ?_, tyX_of w rx q1, kk, q _ H α F (Ext.refl _ _ _ _).noO w rfl⟩)
            rw [← ei]
            exact hk
  · cases e
end
end DL
set_option maxHeartbeats 2000000
namespace DL
open PySem PySem.Spec L2

/-! ### statements -/
def PostS (K : PySem.W.Frag) (W : WX) (O : Addr → Prop) (α : List Addr) (F H : Hp) (r : Res Fl) (D : Ends) : Prop := match r with
  | .ok (.nx e') S' => ∀ (σ' : L2.St) (H' : Hp) (α' : List Addr) (F' : Hp), Ext O α F H (Own e' σ') α' F' H' → Wd K α' F' S' H' → EvR K α' F' H' e' σ' → D.nx σ' H'
  | .ok (.bk e') S' => ∀ (σ' : L2.St) (H' : Hp) (α' : List Addr) (F' : Hp), Ext O α F H (Own e' σ') α' F' H' → Wd K α' F' S' H' → EvR K α' F' H' e' σ' → D.bk σ' H'
  | .ok (.ct e') S' => ∀ (σ' : L2.St) (H' : Hp) (α' : List Addr) (F' : Hp), Ext O α F H (Own e' σ') α' F' H' → Wd K α' F' S' H' → EvR K α' F' H' e' σ' → D.ct σ' H'
  | .ok (.rt d) S' => ∀ (v : V) (H' : Hp) (α' : List Addr) (F' : Hp), Ext O α F H NoOwn α' F' H' → Wd K α' F' S' H' → Rep K α' F' d v → D.rt v H'
  | .ok (.xx e' x) S' => ∀ (σ' : L2.St) (dd : Addr) (fv : List (Str × V)) (H' : Hp) (α' : List Addr) (F' : Hp), Ext O α F H (Own e' σ') α' F' H' → Wd K α' F' S' H' → EvR K α' F' H' e' σ' →
      H' dd = some (.xd fv) → FsR K α' F' x.fs fv → W (.ref x.cls) (some dd) σ' H'
  | .ex _ _ => False
  | .stuck => False
def tDS (K : PySem.W.Frag) (W : WX) (g : GS) : TS := fun D σ H => ∃ (α : List Addr) (F : Hp) (e : Ev) (S : Sto), Wd K α F S H ∧ EvR K α F H e σ ∧ PostS K W (Own e σ) α F H (g e S) D
abbrev DS (X : Cx) (W : WX) (st : Stmt) (g : GS) : Prop := PS X st (tDS X.K W g)
abbrev DSs (X : Cx) (W : WX) (st : List Stmt) (g : GS) : Prop := PSs X st (tDS X.K W g)
theorem ps_weak {X : Cx} {st : Stmt} {t t' : TS} (h : PS X st t) (w : ∀ D σ H, t' D σ H → t D σ H) : PS X st t' := ⟨fun pins s σ H D I q => h.run pins s σ H D I (w D σ H q)⟩
theorem pss_weak {X : Cx} {st : List Stmt} {t t' : TS} (h : PSs X st t) (w : ∀ D σ H, t' D σ H → t D σ H) : PSs X st t' := ⟨fun pins s σ H D I q => h.run pins s σ H D I (w D σ H q)⟩
/-- an expression's result, in a statement -/
def gE {β : Type} (r : Res β) (e : Ev) (k : β → Sto → Res Fl) : Res Fl := match r with
  | .ok b S => k b S
  | .ex x S => .ok (.xx e x) S
  | .stuck => .stuck
@[simp] theorem gE_ok {β : Type} (b : β) (S : Sto) (e : Ev) (k : β → Sto → Res Fl) : gE (.ok b S) e k = k b S := rfl
@[simp] theorem gE_ex {β : Type} (x : Exn) (S : Sto) (e : Ev) (k : β → Sto → Res Fl) : gE (.ex x S) e k = .ok (.xx e x) S := rfl
@[simp] theorem gE_stuck {β : Type} (e : Ev) (k : β → Sto → Res Fl) : gE (.stuck) e k = .stuck := rfl
def gSeq (g1 g2 : GS) : GS := fun e S => match g1 e S with
  | .ok (.nx e1) S1 => g2 e1 S1
  | r => r
def gNext : GS := fun e S => .ok (.nx e) S
section
variable {K : PySem.W.Frag} {W : WX} {O O1 : Addr → Prop} {α α1 : List Addr} {F F1 H H1 : Hp} {D : Ends} {r : Res Fl} {e : Ev} {S : Sto} {σ : L2.St}
theorem PostS.trans (x : Ext O α F H O1 α1 F1 H1) (p : PostS K W O α F H r D) : PostS K W O1 α1 F1 H1 r D := by
  cases r with
  | ok fl S' =>
    cases fl with
    | nx e' => exact fun σ' H' α' F' x' w r => p σ' H' α' F' (x.trans x') w r
    | bk e' => exact fun σ' H' α' F' x' w r => p σ' H' α' F' (x.trans x') w r
    | ct e' => exact fun σ' H' α' F' x' w r => p σ' H' α' F' (x.trans x') w r
    | rt d => exact fun v H' α' F' x' w r => p v H' α' F' (x.trans x') w r
    | xx e' y => exact fun σ' dd fv H' α' F' x' w r h1 h2 => p σ' dd fv H' α' F' (x.trans x') w r h1 h2
  | ex y S' => exact p
  | stuck => exact p
theorem PostS.nx' {O : Addr → Prop} (p : PostS K W O α F H (.ok (.nx e) S) D) (w : Wd K α F S H) (r : EvR K α F H e σ) (ho : ∀ a, Own e σ a → O a ∨ H a = none) : D.nx σ H :=
  p σ H α F ⟨⟨[], by simp, by simp⟩, fun _ _ h => h, fun _ _ h _ _ => h, fun _ _ h => .inl h, ho, fun _ o h => ⟨o, h⟩⟩ w r
/-- from an expression's end to a statement's -/
theorem gE_post {β γ : Type} {R : List Addr → Hp → Hp → β → γ → Prop} {rr : Res β} {k : β → Sto → Res Fl} (re : EvR K α F H e σ) (p : PostS K W (Own e σ) α F H (gE rr e k) D) :
    Post K W R σ α F H rr (fun c H1 => ∃ (b : β) (α1 : List Addr) (F1 : Hp) (S1 : Sto), Ex α F H α1 F1 H1 ∧ Wd K α1 F1 S1 H1 ∧ EvR K α1 F1 H1 e σ ∧ R α1 F1 H1 b c ∧ PostS K W (Own e σ) α1 F1 H1 (k b S1) D ∧ PostS K W (Own e σ) α F H (k b S1) D) := by
  cases rr with
  | ok b S1 => exact fun c H1 α1 F1 x w r => ⟨b, α1, F1, S1, x, w, re.ex x, r, PostS.trans (x.from0 _) p, p⟩
  | ex y S1 => exact fun dd fv H1 α1 F1 x w h1 h2 => p σ dd fv H1 α1 F1 (x.from0 _) w (re.ex x) h1 h2
  | stuck => exact p.elim
/-- .. from a state further back -/
theorem gE_from {β γ : Type} {R : List Addr → Hp → Hp → β → γ → Prop} {rr : Res β} {k : β → Sto → Res Fl} (x0 : Ex α F H α1 F1 H1) (re : EvR K α1 F1 H1 e σ) (p : PostS K W (Own e σ) α F H (gE rr e k) D) :
    Post K W R σ α1 F1 H1 rr (fun c H2 => ∃ (b : β) (α2 : List Addr) (F2 : Hp) (S2 : Sto), Ex α1 F1 H1 α2 F2 H2 ∧ Wd K α2 F2 S2 H2 ∧ EvR K α2 F2 H2 e σ ∧ R α2 F2 H2 b c ∧ PostS K W (Own e σ) α F H (k b S2) D) := by
  cases rr with
  | ok b S1 => exact fun c H1 α1 F1 x w r => ⟨b, α1, F1, S1, x, w, re.ex x, r, p⟩
  | ex y S1 => exact fun dd fv H1 α1 F1 x w h1 h2 => p σ dd fv H1 α1 F1 ((x0.trans x).from0 _) w (re.ex x) h1 h2
  | stuck => exact p.elim
end
section
variable {X : Cx} {W : WX} {st : Stmt} {rest : List Stmt} {g g2 : GS} {a : Expr} {ga : GE} {pos : Pos}
theorem ds_nil : DSs X W [] gNext := pss_weak pss_nil fun D σ H h => by
  obtain ⟨α, F, e, S, w, r, p⟩ := h
  exact p.nx' w r fun a h => .inl h
theorem ds_cons (h1 : DS X W st g) (h2 : DSs X W rest g2) : DSs X W (st :: rest) (gSeq g g2) := by
  refine pss_weak (pss_cons h1 h2) fun D σ H h => ?_
  obtain ⟨α, F, e, S, w, r, p⟩ := h
  refine ⟨α, F, e, S, w, r, ?_⟩
  unfold gSeq at p
  cases q : g e S with
  | ok fl S1 =>
    rw [q] at p
    cases fl with
    | nx e1 => exact fun σ1 H1 α1 F1 x1 w1 r1 => ⟨α1, F1, e1, S1, w1, r1, PostS.trans x1 p⟩
    | bk e1 => exact p
    | ct e1 => exact p
    | rt d => exact p
    | xx e1 y => exact p
  | ex y S1 => rw [q] at p; exact p
  | stuck => rw [q] at p; exact p
theorem ds_one (h1 : DS X W st g) : DSs X W [st] g := pss_one h1
theorem ds_pass : DS X W (.Pass pos) gNext := ps_weak ps_pass fun D σ H h => by
  obtain ⟨α, F, e, S, w, r, p⟩ := h
  exact p.nx' w r fun a h => .inl h
def gBreak : GS := fun e S => .ok (.bk e) S
def gCont : GS := fun e S => .ok (.ct e) S
theorem ds_break : DS X W (.Break pos) gBreak := ps_weak ps_break fun D σ H h => by
  obtain ⟨α, F, e, S, w, r, p⟩ := h
  exact p σ H α F (Ext.refl _ _ _ _) w r
theorem ds_cont : DS X W (.Continue pos) gCont := ps_weak ps_continue fun D σ H h => by
  obtain ⟨α, F, e, S, w, r, p⟩ := h
  exact p σ H α F (Ext.refl _ _ _ _) w r
def gStuck : GS := fun _ _ => .stuck
/-- code that the proof never comes to -/
theorem ds_never : DS X W st gStuck := ps_weak ps_never fun D σ H h => by
  obtain ⟨α, F, e, S, w, r, p⟩ := h
  exact p
theorem ds_neverL {sts : List Stmt} : DSs X W sts gStuck := pss_weak pss_never fun D σ H h => by
  obtain ⟨α, F, e, S, w, r, p⟩ := h
  exact p
def gRet (g : GE) : GS := fun e S => gE (g e S) e fun d S1 => .ok (.rt d) S1
theorem ds_ret (ha : DE X W a ga) : DS X W (.Return (some a) pos) (gRet ga) := by
  refine ps_weak (ps_ret ha) fun D σ H h => ?_
  obtain ⟨α, F, e, S, w, r, p⟩ := h
  refine tG.mono ⟨α, F, e, S, w, r, gE_post r p⟩ fun v H1 ⟨d, α1, F1, S1, x, w1, r1, rd, p1, p0⟩ => ?_
  exact p1 v H1 α1 F1 Ext.refl0 w1 rd
def gRetN : GS := fun _ S => .ok (.rt .non) S
theorem ds_retN : DS X W (.Return none pos) gRetN := ps_weak ps_retN fun D σ H h => by
  obtain ⟨α, F, e, S, w, r, p⟩ := h
  exact p .non H α F Ext.refl0 w rfl
def gDrop (g : GE) : GS := fun e S => gE (g e S) e fun _ S1 => .ok (.nx e) S1
theorem ds_expr (ha : DE X W a ga) (hs : swapsWith a none pos.line X.env = pure false := by rfl) : DS X W (.Expr a pos) (gDrop ga) := by
  refine ps_weak (ps_expr ha hs) fun D σ H h => ?_
  obtain ⟨α, F, e, S, w, r, p⟩ := h
  refine tG.mono ⟨α, F, e, S, w, r, gE_post r p⟩ fun v H1 ⟨d, α1, F1, S1, x, w1, r1, rd, p1, p0⟩ => ?_
  exact p1.nx' w1 r1 fun a h => .inl h
theorem ds_doc {x j pos'} : DS X W (.Expr (.Constant (.str x) j pos) pos') gNext := ps_weak ps_doc fun D σ H h => by
  obtain ⟨α, F, e, S, w, r, p⟩ := h
  exact p.nx' w r fun a h => .inl h
def gIfS (t : GT) (g u : GS) : GS := fun e S => gE (t e S) e fun k S1 => if k = true then g e S1 else u e S1
theorem ds_if {c : Expr} {b1 b2 : List Stmt} {tc : GT} {g1 g2 : GS} (hc : DT X W c tc) (h1 : DSs X W b1 g1) (h2 : DSs X W b2 g2) : DS X W (.If c b1 b2 pos) (gIfS tc g1 g2) := by
  refine ps_weak (ps_if hc h1 h2) fun D σ H h => ?_
  obtain ⟨α, F, e, S, w, r, p⟩ := h
  refine tG.mono ⟨α, F, e, S, w, r, gE_post r p⟩ fun k H1 ⟨k', α1, F1, S1, x, w1, r1, rk, p1, p0⟩ => ?_
  have rk' : k' = k := rk
  subst rk'
  cases k' with
  | true => rw [if_pos rfl] at p1 ⊢; exact ⟨α1, F1, e, S1, w1, r1, p1⟩
  | false => rw [if_neg (by decide)] at p1 ⊢; exact ⟨α1, F1, e, S1, w1, r1, p1⟩

/-! ### slots -/
theorem EvR.set {K : PySem.W.Frag} {α : List Addr} {F H : Hp} {e : Ev} {σ : L2.St} {i : Nat} {sl : Slot} {v : V} (r : EvR K α F H e σ) (h : RSl K α F H sl v) (ho : ∀ ds, sl = .own ds → ∀ a, v = .ref a → ¬ Own e σ a) : EvR K α F H (e.set i sl) (σ.set i (some v)) where
  len := by rw [List.length_set, List.length_set]; exact r.len
  dat := fun j d hj => by
    by_cases hij : i = j
    · subst hij
      have hi : i < e.length := by
        have := (List.getElem?_eq_some_iff.mp hj).1
        rwa [List.length_set] at this
      rw [List.getElem?_set_self hi] at hj
      cases hj
      exact ⟨v, by rw [List.getElem?_set_self (by rw [r.len]; exact hi)], h⟩
    · rw [List.getElem?_set_ne hij] at hj ⊢
      exact r.dat j d hj
  own := fun j ds hj => by
    by_cases hij : i = j
    · subst hij
      have hi : i < e.length := by
        have := (List.getElem?_eq_some_iff.mp hj).1
        rwa [List.length_set] at this
      rw [List.getElem?_set_self hi] at hj
      cases hj
      obtain ⟨a, vs, e1, h2, h3, h4, h5⟩ := h
      exact ⟨a, vs, by rw [List.getElem?_set_self (by rw [r.len]; exact hi), e1], h2, h3, h4, h5⟩
    · rw [List.getElem?_set_ne hij] at hj ⊢
      exact r.own j ds hj
  inj := fun j k ds es a hj hk sj sk => by
    by_cases hij : i = j
    · by_cases hik : i = k
      · omega
      · exfalso
        subst hij
        have hi : i < e.length := by
          have := (List.getElem?_eq_some_iff.mp hj).1
          rwa [List.length_set] at this
        rw [List.getElem?_set_self hi] at hj
        cases hj
        rw [List.getElem?_set_self (by rw [r.len]; exact hi)] at sj
        rw [List.getElem?_set_ne hik] at hk sk
        cases sj
        exact ho ds rfl a rfl ⟨k, es, hk, sk⟩
    · by_cases hik : i = k
      · exfalso
        subst hik
        have hi : i < e.length := by
          have := (List.getElem?_eq_some_iff.mp hk).1
          rwa [List.length_set] at this
        rw [List.getElem?_set_self hi] at hk
        cases hk
        rw [List.getElem?_set_self (by rw [r.len]; exact hi)] at sk
        rw [List.getElem?_set_ne hij] at hj sj
        cases sk
        exact ho es rfl a rfl ⟨j, ds, hj, sj⟩
      · rw [List.getElem?_set_ne hij] at hj sj
        rw [List.getElem?_set_ne hik] at hk sk
        exact r.inj j k ds es a hj hk sj sk
theorem own_set {e : Ev} {σ : L2.St} {i : Nat} {sl : Slot} {v : V} {a : Addr} (h : Own (e.set i sl) (σ.set i (some v)) a) : Own e σ a ∨ ((∃ ds, sl = .own ds) ∧ v = .ref a) := by
  obtain ⟨j, ds, hj, sj⟩ := h
  by_cases hij : i = j
  · subst hij
    have hi : i < e.length := by
      have := (List.getElem?_eq_some_iff.mp hj).1
      rwa [List.length_set] at this
    have hs : i < σ.length := by
      have := (List.getElem?_eq_some_iff.mp sj).1
      rwa [List.length_set] at this
    rw [List.getElem?_set_self hi] at hj
    rw [List.getElem?_set_self hs] at sj
    cases hj
    cases sj
    exact .inr ⟨⟨ds, rfl⟩, rfl⟩
  · rw [List.getElem?_set_ne hij] at hj sj
    exact .inl ⟨j, ds, hj, sj⟩
theorem EvR.ownH {K : PySem.W.Frag} {α : List Addr} {F H : Hp} {e : Ev} {σ : L2.St} {a : Addr} (r : EvR K α F H e σ) (h : Own e σ a) : ∃ vs, H a = some (.lst vs) ∧ F a = none ∧ a ∉ α := by
  obtain ⟨i, ds, h1, h2⟩ := h
  obtain ⟨b, vs, e1, h3, _, h4, h5⟩ := r.own i ds h1
  rw [h2] at e1
  cases e1
  exact ⟨vs, h3, h4, h5⟩
/-- a slot's value, and a list of one's own is new -/
def RSlF (K : PySem.W.Frag) (H0 : Hp) : List Addr → Hp → Hp → Slot → V → Prop := fun α F H s v => RSl K α F H s v ∧ ∀ ds, s = .own ds → ∀ a, v = .ref a → H0 a = none
theorem mono_SlF {K : PySem.W.Frag} {H0 : Hp} : Mono (RSlF K H0) := ⟨fun x h => ⟨mono_Sl.up x h.1, h.2⟩⟩
abbrev GV := Ev → Sto → Res Slot
def tVl (K : PySem.W.Frag) (W : WX) (g : GV) : TE := fun σ H Q => tG K W (RSlF K H) g σ H Q
abbrev DVl (X : Cx) (W : WX) (e : Expr) (g : GV) : Prop := PE X e (tVl X.K W g)
def gDat (g : GE) : GV := fun e S => (g e S).bind fun d S1 => .ok (.dat d) S1
theorem dv_of (h : DE X W a ga) : DVl X W a (gDat ga) := by
  refine pe_weak h fun σ H Q h => ?_
  unfold tVl at h
  refine (tG.at h).bind mono_true mono_D |>.mono fun x H1 ⟨a, α, F, e, S, w, re, ⟨_, ra⟩, p⟩ => ?_
  exact p.ok w ⟨ra, fun ds e => nomatch e⟩
def gOwnL (gs : GA) : GV := fun e S => (gs e S).bind fun as S1 => if as.length ≤ line then .ok (.own as) S1 else .stuck
/-- a new list of one's own -/
theorem ext_own {K : PySem.W.Frag} {α : List Addr} {F H : Hp} {S : Sto} {p : Addr} {vs : List V} (w : Wd K α F S H) (hp : H p = none) :
    Ex α F H α F (upd H p (.lst vs)) ∧ Wd K α F S (upd H p (.lst vs)) ∧ F p = none ∧ p ∉ α := by
  have hF : F p = none := by
    cases q : F p with
    | none => rfl
    | some u =>
      have z := w.sub p u q
      rw [hp] at z; cases z
  have kH : ∀ a u, H a = some u → upd H p (.lst vs) a = some u := fun a u h => by rw [upd_ne (ne_of_none h hp)]; exact h
  have hα : p ∉ α := fun hm => by
    obtain ⟨i, hi, e⟩ := List.getElem_of_mem hm
    have e' : α[i]? = some p := by rw [List.getElem?_eq_getElem hi, e]
    have hi' : i < S.length := by rw [← w.ln]; exact hi
    obtain ⟨_, h4⟩ := w.ob i p S[i] e' (List.getElem?_eq_getElem hi')
    cases q : S[i] with
    | lst ds => rw [q] at h4; obtain ⟨vs, z, _⟩ := h4; rw [hp] at z; cases z
    | ins C fs => rw [q] at h4; obtain ⟨dx, vs, z, _⟩ := h4; rw [hp] at z; cases z
  refine ⟨⟨⟨[], by simp, by simp⟩, fun _ _ h => h, fun a u h _ _ => kH a u h, fun _ _ h => .inl h, fun _ h => h.elim, fun a u h => ⟨u, kH a u h⟩⟩, ⟨fun a u h => kH a u (w.sub a u h), w.ln, w.nd, fun i a u h1 h2 => ?_⟩, hF, hα⟩
  obtain ⟨h3, h4⟩ := w.ob i a u h1 h2
  refine ⟨h3, ?_⟩
  cases u with
  | lst ds =>
    obtain ⟨vs, z, r⟩ := h4
    exact ⟨vs, kH _ _ z, r⟩
  | ins C fs =>
    obtain ⟨dx, vs, z, r⟩ := h4
    exact ⟨dx, vs, kH _ _ z, r⟩
theorem dv_lst {es : List Expr} {gs : GA} (h : DA X W es gs) : DVl X W (.List es pos) (gOwnL gs) := by
  refine pe_weak (pe_lst h) fun σ H Q h => ?_
  unfold tVl at h
  obtain ⟨α, F, e, S, w, r, p⟩ := h
  refine ⟨α, F, e, S, w, r, ?_⟩
  unfold gOwnL at p
  cases q : gs e S with
  | stuck => rw [q] at p; exact p
  | ex y S1 => rw [q] at p; exact p
  | ok as S1 =>
    rw [q] at p
    dsimp only [Res.bind_ok] at p
    intro xs H1 α1 F1 x w1 ra
    by_cases hl : as.length ≤ line
    · rw [if_pos hl] at p
      refine ⟨by rw [line_eq, ← ra.length]; exact hl, fun t ht => ?_⟩
      obtain ⟨x', w', f', a'⟩ := ext_own (vs := xs) w1 ht
      have h0 : H t = none := by
        cases q : H t with
        | none => rfl
        | some u => obtain ⟨o', z⟩ := x.dom t u q; rw [ht] at z; cases z
      exact p _ _ _ _ (x.trans x') w' ⟨⟨t, xs, rfl, upd_same, mono_A.up x' ra, f', a'⟩, fun ds _ a ea => by cases ea; exact h0⟩
    · rw [if_neg hl] at p; exact p.elim
def gSet (i : Nat) (g : GV) : GS := fun e S => gE (g e S) e fun sl S1 => .ok (.nx (e.set i sl)) S1
theorem ds_set {i : Nat} {x : Str} {gv : GV} {pos' : Pos} (hN : X.N.Nodup) (hi : X.N[i]? = some x) (hx : Loc X.env.scope x) (he : DVl X W a gv) (hs : swapsWith a (some (.Name x pos')) pos.line X.env = pure false := by rfl)
    (hf : X.fn x = true ∨ X.env.scope.names.lookup x = some .local := by first | exact .inl rfl | exact .inr rfl | assumption) : DS X W (.Assign [.Name x pos'] a pos) (gSet i gv) := by
  refine ps_weak (ps_set hN hi hx he hs hf) fun D σ H h => ?_
  obtain ⟨α, F, e, S, w, r, p⟩ := h
  refine tG.mono ⟨α, F, e, S, w, r, gE_post r p⟩ fun v H1 ⟨sl, α1, F1, S1, x, w1, r1, rd, p1, p0⟩ => ?_
  have fresh : ∀ ds, sl = .own ds → ∀ a, v = .ref a → H a = none := rd.2
  have no : ∀ ds, sl = .own ds → ∀ a, v = .ref a → ¬ Own e σ a := fun ds e1 a e2 ho => by
    obtain ⟨vs, z, _⟩ := r.ownH ho
    rw [fresh ds e1 a e2] at z
    cases z
  refine p0 _ H1 α1 F1 ⟨x.pre, x.sub, fun a o h ha _ => x.kp a o h ha (fun z => z), fun a o h => (x.new a o h).elim .inl fun z => z.elim (fun q => q.elim) fun q => .inr (.inr q), fun a h => ?_, x.dom⟩ w1 (r1.set rd.1 no)
  rcases own_set h with z | ⟨⟨ds, e1⟩, e2⟩
  · exact .inl z
  · exact .inr (fresh ds e1 a e2)
/-- x, y = a, b -/
def gPar (i j : Nat) (g1 g2 : GV) : GS := fun e S => gE (g1 e S) e fun s1 S1 => gE (g2 e S1) e fun s2 S2 => .ok (.nx ((e.set i s1).set j s2)) S2
theorem ds_par {i j : Nat} {x y : Str} {a b : Expr} {g1 g2 : GV} {px py pt : Pos} {kt k2 pt2} (hc : X.calm = true) (hN : X.N.Nodup) (hi : X.N[i]? = some x) (hj : X.N[j]? = some y) (hij : i ≠ j)
    (hx : X.env.scope.names.lookup x = some .local) (hy : X.env.scope.names.lookup y = some .local) (h1 : DVl X W a g1) (h2 : DVl X W b g2)
    (hw : swappedStores [.Tuple [.Name x px, .Name y py] kt pt] (.Tuple [a, b] k2 pt2) X.env = pure (some [x, y]))
    (hs : swapsWithSole [.Tuple [.Name x px, .Name y py] kt pt] (.Tuple [a, b] k2 pt2) pos.line X.env = pure false := by rfl)
    (he1 : starEach (a :: [b]) X.env = (false, eval a X.env) :: starEach [b] X.env := by rfl) (he2 : starEach (b :: []) X.env = (false, eval b X.env) :: starEach [] X.env := by rfl) :
    DS X W (.Assign [.Tuple [.Name x px, .Name y py] kt pt] (.Tuple [a, b] k2 pt2) pos) (gPar i j g1 g2) := by
  refine ps_weak (ps_par hc hN hi hj hij hx hy (pa_cons h1 (pa_cons h2 pa_nil he2) he1) hw hs) fun D σ H h => ?_
  obtain ⟨α, F, e, S, w, r, p⟩ := h
  refine tG.mono ⟨α, F, e, S, w, r, gE_post r p⟩ fun v H1 ⟨s1, α1, F1, S1, x1, w1, r1, rd1, p1, p0⟩ => ?_
  refine tG.mono ⟨α1, F1, e, S1, w1, r1, gE_from x1 r1 p0⟩ fun u H2 ⟨s2, α2, F2, S2, x2, w2, r2, rd2, pf⟩ => ?_
  refine ⟨v, u, rfl, ?_⟩
  have fr1 : ∀ ds, s1 = .own ds → ∀ a, v = .ref a → H a = none := rd1.2
  have fr2' : ∀ ds, s2 = .own ds → ∀ a, u = .ref a → H1 a = none := rd2.2
  have dn : ∀ a, H1 a = none → H a = none := fun a h => by
    cases q : H a with
    | none => rfl
    | some o => obtain ⟨o', z⟩ := x1.dom a o q; rw [h] at z; cases z
  have no1 : ∀ ds, s1 = .own ds → ∀ a, v = .ref a → ¬ Own e σ a := fun ds e1 a e2 ho => by
    obtain ⟨vs, z, _⟩ := r.ownH ho
    rw [fr1 ds e1 a e2] at z
    cases z
  have rd1' : RSl X.K α2 F2 H2 s1 v := mono_Sl.up x2 rd1.1
  have no2 : ∀ ds, s2 = .own ds → ∀ a, u = .ref a → ¬ Own (e.set i s1) (σ.set i (some v)) a := fun ds e1 a e2 ho => by
    rcases own_set ho with z | ⟨⟨ds', e3⟩, e4⟩
    · obtain ⟨vs, z, _⟩ := r.ownH z
      rw [dn a (fr2' ds e1 a e2)] at z
      cases z
    · have h1 := rd1.1
      rw [e3] at h1
      obtain ⟨a', vs, e5, h3, _⟩ := h1
      rw [e4] at e5
      cases e5
      rw [fr2' ds e1 a e2] at h3
      cases h3
  have x := x1.trans x2
  refine pf _ H2 α2 F2 ⟨x.pre, x.sub, fun a o h ha _ => x.kp a o h ha (fun z => z), fun a o h => (x.new a o h).elim .inl fun z => z.elim (fun q => q.elim) fun q => .inr (.inr q), fun a h => ?_, x.dom⟩ w2 ((r2.set rd1' no1).set rd2.1 no2)
  rcases own_set h with z | ⟨⟨ds, e1⟩, e2⟩
  · rcases own_set z with z | ⟨⟨ds, e1⟩, e2⟩
    · exact .inl z
    · exact .inr (fr1 ds e1 a e2)
  · exact .inr (dn a (fr2' ds e1 a e2))
end
end DL
set_option maxHeartbeats 2000000
namespace DL
open PySem PySem.Spec L2

/-! ### what a frame's own lists are: written, appended to, told frozen -/
theorem EvR.ofN {K : PySem.W.Frag} {α : List Addr} {F H : Hp} {e : Ev} {σ : L2.St} {i : Nat} {ds : List D} (r : EvR K α F H e σ) (h : e[i]? = some (.own ds)) :
    ∃ a vs, σ[i]? = some (some (.ref a)) ∧ H a = some (.lst vs) ∧ Reps K α F ds vs ∧ F a = none ∧ a ∉ α := r.own i ds h
/-- the frame's own list at a is changed -/
theorem own_write {K : PySem.W.Frag} {α : List Addr} {F H : Hp} {S : Sto} {e : Ev} {σ : L2.St} {i : Nat} {ds es : List D} {a : Addr} {vs ws : List V} (w : Wd K α F S H) (r : EvR K α F H e σ) (h : e[i]? = some (.own ds)) (hs : σ[i]? = some (some (.ref a)))
    (hH : H a = some (.lst vs)) (hF : F a = none) (hα : a ∉ α) (rs : Reps K α F es ws) :
    Ext (Own e σ) α F H (Own (e.set i (.own es)) σ) α F (upd H a (.lst ws)) ∧ Wd K α F S (upd H a (.lst ws)) ∧ EvR K α F (upd H a (.lst ws)) (e.set i (.own es)) σ := by
  have hi : i < e.length := (List.getElem?_eq_some_iff.mp h).1
  have kF : ∀ b u, F b = some u → upd H a (.lst ws) b = some u := fun b u q => by
    rw [upd_ne (ne_of_none q hF)]
    exact w.sub b u q
  refine ⟨⟨⟨[], by simp, by simp⟩, fun _ _ h => h, fun b u q _ ho => ?_, fun _ _ h => .inl h, fun b hb => ?_, fun b u q => ?_⟩, ⟨kF, w.ln, w.nd, fun j b u h1 h2 => ?_⟩, ⟨by rw [List.length_set]; exact r.len, fun j d hj => ?_, fun j fs hj => ?_, fun j k fs gs b hj hk sj sk => ?_⟩⟩
  · have : b ≠ a := fun q => ho (by subst q; exact ⟨i, ds, h, hs⟩)
    rw [upd_ne this]
    exact q
  · obtain ⟨j, fs, hj, sj⟩ := hb
    by_cases hij : i = j
    · subst hij
      exact .inl ⟨i, ds, h, sj⟩
    · rw [List.getElem?_set_ne hij] at hj
      exact .inl ⟨j, fs, hj, sj⟩
  · by_cases hb : b = a
    · subst hb; exact ⟨_, upd_same⟩
    · exact ⟨u, by rw [upd_ne hb]; exact q⟩
  · obtain ⟨h3, h4⟩ := w.ob j b u h1 h2
    have hb : b ≠ a := fun q => hα (by subst q; exact List.mem_of_getElem? h1)
    refine ⟨h3, ?_⟩
    cases u with
    | lst fs => obtain ⟨us, z, q⟩ := h4; exact ⟨us, by rw [upd_ne hb]; exact z, q⟩
    | ins C fs => obtain ⟨dx, us, z, q⟩ := h4; exact ⟨dx, us, by rw [upd_ne hb]; exact z, q⟩
  · by_cases hij : i = j
    · subst hij; rw [List.getElem?_set_self hi] at hj; cases hj
    · rw [List.getElem?_set_ne hij] at hj; exact r.dat j d hj
  · by_cases hij : i = j
    · subst hij
      rw [List.getElem?_set_self hi] at hj
      cases hj
      exact ⟨a, ws, hs, upd_same, rs, hF, hα⟩
    · rw [List.getElem?_set_ne hij] at hj
      obtain ⟨b, us, e1, h2, h3, h4, h5⟩ := r.own j fs hj
      have hb : b ≠ a := fun q => hij (by subst q; exact r.inj i j ds fs b h hj hs e1)
      exact ⟨b, us, e1, by rw [upd_ne hb]; exact h2, h3, h4, h5⟩
  · have old : ∀ {j : Nat} {fs : List D}, (e.set i (.own es))[j]? = some (.own fs) → ∃ gs, e[j]? = some (.own gs) := fun {j fs} hj => by
      by_cases hij : i = j
      · subst hij; exact ⟨ds, h⟩
      · rw [List.getElem?_set_ne hij] at hj; exact ⟨fs, hj⟩
    obtain ⟨fs', hj'⟩ := old hj
    obtain ⟨gs', hk'⟩ := old hk
    exact r.inj j k fs' gs' b hj' hk' sj sk
/-- the frame's own list is one that stays -/
theorem own_freeze {K : PySem.W.Frag} {α : List Addr} {F H : Hp} {S : Sto} {e : Ev} {σ : L2.St} {i : Nat} {ds : List D} (w : Wd K α F S H) (r : EvR K α F H e σ) (h : e[i]? = some (.own ds)) :
    ∃ F', Ext (Own e σ) α F H (Own (e.set i (.dat (.lst ds))) σ) α F' H ∧ Wd K α F' S H ∧ EvR K α F' H (e.set i (.dat (.lst ds))) σ := by
  obtain ⟨a, vs, hs, hH, rs, hF, hα⟩ := r.own i ds h
  have hi : i < e.length := (List.getElem?_eq_some_iff.mp h).1
  have kF : ∀ b u, F b = some u → upd F a (.lst vs) b = some u := fun b u q => by rw [upd_ne (ne_of_none q hF)]; exact q
  have up1 : ∀ {d : D} {v : V}, Rep K α F d v → Rep K α (upd F a (.lst vs)) d v := fun q => Rep.up kF (fun _ _ h => h) q
  have upS : ∀ {d : List D} {v : List V}, Reps K α F d v → Reps K α (upd F a (.lst vs)) d v := fun q => Reps.up kF (fun _ _ h => h) q
  refine ⟨upd F a (.lst vs), ⟨⟨[], by simp, by simp⟩, kF, fun _ _ q _ _ => q, fun b u q => ?_, fun b hb => ?_, fun _ o q => ⟨o, q⟩⟩, ⟨fun b u q => ?_, w.ln, w.nd, fun j b u h1 h2 => ?_⟩, ⟨by rw [List.length_set]; exact r.len, fun j d hj => ?_, fun j fs hj => ?_, fun j k fs gs b hj hk sj sk => ?_⟩⟩
  · by_cases hb : b = a
    · subst hb; exact .inr (.inl ⟨i, ds, h, hs⟩)
    · rw [upd_ne hb] at q; exact .inl q
  · obtain ⟨j, fs, hj, sj⟩ := hb
    by_cases hij : i = j
    · subst hij; rw [List.getElem?_set_self hi] at hj; cases hj
    · rw [List.getElem?_set_ne hij] at hj; exact .inl ⟨j, fs, hj, sj⟩
  · by_cases hb : b = a
    · subst hb; rw [upd_same] at q; cases q; exact hH
    · rw [upd_ne hb] at q; exact w.sub b u q
  · obtain ⟨h3, h4⟩ := w.ob j b u h1 h2
    have hb : b ≠ a := fun q => hα (by subst q; exact List.mem_of_getElem? h1)
    refine ⟨by rw [upd_ne hb]; exact h3, ?_⟩
    cases u with
    | lst fs => obtain ⟨us, z, q⟩ := h4; exact ⟨us, z, upS q⟩
    | ins C fs => obtain ⟨dx, us, z, q⟩ := h4; exact ⟨dx, us, z, FsR.up kF (fun _ _ h => h) q⟩
  · by_cases hij : i = j
    · subst hij
      rw [List.getElem?_set_self hi] at hj
      cases hj
      exact ⟨.ref a, hs, a, vs, rfl, upd_same, upS rs⟩
    · rw [List.getElem?_set_ne hij] at hj
      obtain ⟨v, h1, h2⟩ := r.dat j d hj
      exact ⟨v, h1, up1 h2⟩
  · by_cases hij : i = j
    · subst hij; rw [List.getElem?_set_self hi] at hj; cases hj
    · rw [List.getElem?_set_ne hij] at hj
      obtain ⟨b, us, e1, h2, h3, h4, h5⟩ := r.own j fs hj
      have hb : b ≠ a := fun q => hij (by subst q; exact r.inj i j ds fs b h hj hs e1)
      exact ⟨b, us, e1, h2, upS h3, by rw [upd_ne hb]; exact h4, h5⟩
  · have old : ∀ {j : Nat} {fs : List D}, (e.set i (.dat (.lst ds)))[j]? = some (.own fs) → e[j]? = some (.own fs) := fun {j fs} hj => by
      by_cases hij : i = j
      · subst hij; rw [List.getElem?_set_self hi] at hj; cases hj
      · rw [List.getElem?_set_ne hij] at hj; exact hj
    exact r.inj j k fs gs b (old hj) (old hk) sj sk
def frz (e : Ev) (i : Nat) : Option Ev := match e[i]? with
  | some (.own ds) => some (e.set i (.dat (.lst ds)))
  | _ => none
def gFrz (i : Nat) (g : GS) : GS := fun e S => match frz e i with
  | some e' => g e' S
  | none => .stuck
theorem frz_of {e e' : Ev} {i : Nat} (h : frz e i = some e') : ∃ ds, e[i]? = some (.own ds) ∧ e' = e.set i (.dat (.lst ds)) := by
  unfold frz at h
  split at h
  · rename_i ds hd
    cases h
    exact ⟨ds, hd, rfl⟩
  · cases h
section
variable {X : Cx} {W : WX} {st : Stmt} {sts : List Stmt} {g : GS} {a b : Expr} {ga gb : GE} {pos p1 p2 : Pos}
/-- from here on the list in slot i is not changed any more -/
theorem ds_frz (i : Nat) (h : DS X W st g) : DS X W st (gFrz i g) := by
  refine ps_weak h fun D σ H h => ?_
  obtain ⟨α, F, e, S, w, r, p⟩ := h
  unfold gFrz at p
  cases q : frz e i with
  | none => rw [q] at p; exact p.elim
  | some e' =>
    rw [q] at p
    obtain ⟨ds, h1, rfl⟩ := frz_of q
    obtain ⟨F', x, w', r'⟩ := own_freeze w r h1
    exact ⟨α, F', _, S, w', r', PostS.trans x p⟩
/-- x.append(e), x a list of the frame's own -/
def ownAt (e : Ev) (i : Nat) : Option (List D) := match e[i]? with
  | some (.own ds) => some ds
  | _ => none
theorem ownAt_of {e : Ev} {i : Nat} {ds : List D} (h : ownAt e i = some ds) : e[i]? = some (.own ds) := by
  unfold ownAt at h
  split at h
  · rename_i q; cases h; exact q
  · cases h
def gApp (i : Nat) (g : GE) : GS := fun e S => match ownAt e i with
  | none => .stuck
  | some ds => gE (g e S) e fun d S1 => if ds.length < line then .ok (.nx (e.set i (.own (ds ++ [d])))) S1 else .stuck
theorem ds_app {i : Nat} {x : Str} {px : Pos} (hN : X.N[i]? = some x) (hv : Vis X.env.scope x) (ha : DE X W a ga)
    (hd : (x == ("__debug__" : Str)) = false := by decide) (hcd : (x == ("__classdict__" : Str)) = false := by decide)
    (he : starEach (a :: []) X.env = (false, eval a X.env) :: starEach [] X.env := by rfl)
    (hbm : ∀ {to : TE} {t : TA}, PE X (.Name x px) to → PA X [a] t → PE X (.Call (.Attribute (.Name x px) "append" p1) [a] [] p2) (tBM X.K "list" rAppend to t))
    (hs : swapsWith (.Call (.Attribute (.Name x px) "append" p1) [a] [] p2) none pos.line X.env = pure false := by rfl) : DS X W (.Expr (.Call (.Attribute (.Name x px) "append" p1) [a] [] p2) pos) (gApp i ga) := by
  refine ps_weak (ps_expr (hbm (pe_var hN hv hd hcd) (pa_cons ha pa_nil he)) hs) fun D σ H h => ?_
  obtain ⟨α, F, e, S, w, r, p⟩ := h
  unfold gApp at p
  cases q : ownAt e i with
  | none => rw [q] at p; exact p.elim
  | some ds =>
    rw [q] at p
    obtain ⟨l, vs, hs, hH, rs, hF, hα⟩ := r.own i ds (ownAt_of q)
    refine ⟨.ref l, hs, .inl ⟨rfl, _, SqL.of hH⟩, ?_⟩
    refine tG.mono ⟨α, F, e, S, w, r, gE_post r p⟩ fun v H1 ⟨d, α1, F1, S1, x, w1, r1, rd, p1, p0⟩ => ?_
    obtain ⟨l1, vs1, hs1, hH1, rs1, hF1, hα1⟩ := r1.own i ds (ownAt_of q)
    rw [hs] at hs1
    cases hs1
    split at p1
    · rename_i hl
      refine ⟨l, vs1, v, rfl, rfl, hH1, by rw [line_eq, ← rs1.length]; exact hl, ?_⟩
      obtain ⟨x2, w2, r2⟩ := own_write w1 r1 (ownAt_of q) hs hH1 hF1 hα1 (rs1.append (Reps.one rd))
      exact p1 σ _ α1 F1 x2 w2 r2
    · exact p1.elim
/-- x[i] = e, x a list of the frame's own -/
def gSetOwn (i : Nat) (gi g : GE) : GS := fun e S => match ownAt e i with
  | none => .stuck
  | some ds => gE (g e S) e fun d S1 => gE (gi e S1) e fun k S2 => match k with
    | .int z => match ixN ds.length z with
      | some j => .ok (.nx (e.set i (.own (ds.set j d)))) S2
      | none => .stuck
    | _ => .stuck
theorem ds_setOwn {i : Nat} {x : Str} {px : Pos} (hN : X.N[i]? = some x) (hv : Vis X.env.scope x) (hb : DE X W b gb) (ha : DE X W a ga)
    (hd : (x == ("__debug__" : Str)) = false := by decide) (hcd : (x == ("__classdict__" : Str)) = false := by decide)
    (has : ∀ {te to ti : TE}, PE X a te → PE X (.Name x px) to → PE X b ti → PS X (.Assign [.Subscript (.Name x px) b p1] a pos) (tAsg te (gSub to ti rSetL))) :
    DS X W (.Assign [.Subscript (.Name x px) b p1] a pos) (gSetOwn i gb ga) := by
  refine ps_weak (has ha (pe_var hN hv hd hcd) hb) fun D σ H h => ?_
  obtain ⟨α, F, e, S, w, r, p⟩ := h
  unfold gSetOwn at p
  cases q : ownAt e i with
  | none => rw [q] at p; exact p.elim
  | some ds =>
    rw [q] at p
    refine tG.mono ⟨α, F, e, S, w, r, gE_post r p⟩ fun v H1 ⟨d, α1, F1, S1, x, w1, r1, rd, p1, p0⟩ => ?_
    obtain ⟨l, vs, hs, hH, rs, hF, hα⟩ := r1.own i ds (ownAt_of q)
    refine ⟨.ref l, hs, ?_⟩
    refine tG.mono ⟨α1, F1, e, S1, w1, r1, gE_post r1 p1⟩ fun u H2 ⟨k, α2, F2, S2, x2, w2, r2, rk, p2, p20⟩ => ?_
    obtain ⟨l2, vs2, hs2, hH2, rs2, hF2, hα2⟩ := r2.own i ds (ownAt_of q)
    rw [hs] at hs2
    cases hs2
    cases k with
    | int z =>
      dsimp only at p2
      cases qj : ixN ds.length z with
      | none => rw [qj] at p2; exact p2.elim
      | some j =>
        rw [qj] at p2
        refine ⟨l, vs2, z, j, rfl, rk, hH2, by rw [← rs2.length]; exact qj, ?_⟩
        obtain ⟨x3, w3, r3⟩ := own_write w2 r2 (ownAt_of q) hs hH2 hF2 hα2 (rs2.set (mono_D.up x2 rd) j)
        exact p2 σ _ α2 F2 x3 w3 r3
    | _ => exact p2.elim
/-- a changing object is written -/
theorem sto_write {K : PySem.W.Frag} {α : List Addr} {F H : Hp} {S : Sto} {n : Nat} {l : Addr} {o : HO} {ob : Ob} (w : Wd K α F S H) (hl : α[n]? = some l) (hH : ∃ u, H l = some u) (hF : F l = none) (hob : ObR K α F (upd H l o) l ob) :
    Ex α F H α F (upd H l o) ∧ Wd K α F (S.set n ob) (upd H l o) := by
  have hn : n < α.length := (List.getElem?_eq_some_iff.mp hl).1
  have hm : l ∈ α := List.mem_of_getElem? hl
  refine ⟨⟨⟨[], by simp, by simp⟩, fun _ _ h => h, fun b u q ha _ => ?_, fun _ _ h => .inl h, fun _ h => h.elim, fun b u q => ?_⟩, ⟨fun b u q => ?_, by rw [List.length_set]; exact w.ln, w.nd, fun j b u h1 h2 => ?_⟩⟩
  · have : b ≠ l := fun z => ha (by subst z; exact hm)
    rw [upd_ne this]; exact q
  · by_cases hb : b = l
    · subst hb; exact ⟨_, upd_same⟩
    · exact ⟨u, by rw [upd_ne hb]; exact q⟩
  · rw [upd_ne (ne_of_none q hF)]; exact w.sub b u q
  · by_cases hj : n = j
    · subst hj
      rw [hl] at h1
      cases h1
      rw [List.getElem?_set_self (by rw [← w.ln]; exact hn)] at h2
      cases h2
      exact ⟨hF, hob⟩
    · rw [List.getElem?_set_ne hj] at h2
      obtain ⟨h3, h4⟩ := w.ob j b u h1 h2
      have hb : b ≠ l := fun z => by
        subst z
        have e1 := (List.getElem?_eq_some_iff.mp h1)
        have e2 := (List.getElem?_eq_some_iff.mp hl)
        obtain ⟨a1, b1⟩ := e1
        obtain ⟨a2, b2⟩ := e2
        exact hj ((List.getElem_inj w.nd).mp (b2.trans b1.symm))
      refine ⟨h3, ?_⟩
      cases u with
      | lst fs => obtain ⟨us, z, q⟩ := h4; exact ⟨us, by rw [upd_ne hb]; exact z, q⟩
      | ins C fs => obtain ⟨dx, us, z, q⟩ := h4; exact ⟨dx, us, by rw [upd_ne hb]; exact z, q⟩
/-- o[i] = e, o a changing list -/
def gSetSto (go gi g : GE) : GS := fun e S => gE (g e S) e fun d S1 => gE (go e S1) e fun o S2 => gE (gi e S2) e fun k S3 => match o, k with
  | .ref n, .int z => match lstAt S3 n with
    | some ds => match ixN ds.length z with
      | some j => .ok (.nx e) (S3.set n (.lst (ds.set j d)))
      | none => .stuck
    | none => .stuck
  | _, _ => .stuck
theorem ds_setSto {c : Expr} {gc : GE} (hc : DE X W c gc) (hb : DE X W b gb) (ha : DE X W a ga)
    (has : ∀ {te to ti : TE}, PE X a te → PE X c to → PE X b ti → PS X (.Assign [.Subscript c b p1] a pos) (tAsg te (gSub to ti rSetL))) :
    DS X W (.Assign [.Subscript c b p1] a pos) (gSetSto gc gb ga) := by
  refine ps_weak (has ha hc hb) fun D σ H h => ?_
  obtain ⟨α, F, e, S, w, r, p⟩ := h
  unfold gSetSto at p
  refine tG.mono ⟨α, F, e, S, w, r, gE_post r p⟩ fun v H1 ⟨d, α1, F1, S1, x, w1, r1, rd, p1, p0⟩ => ?_
  refine tG.mono ⟨α1, F1, e, S1, w1, r1, gE_post r1 p1⟩ fun u H2 ⟨o, α2, F2, S2, x2, w2, r2, ro, p2, p20⟩ => ?_
  refine tG.mono ⟨α2, F2, e, S2, w2, r2, gE_post r2 p2⟩ fun t H3 ⟨k, α3, F3, S3, x3, w3, r3, rk, p3, p30⟩ => ?_
  cases o with
  | ref n =>
    cases k with
    | int z =>
      dsimp only at p3
      cases q : lstAt S3 n with
      | none => rw [q] at p3; exact p3.elim
      | some ds =>
        rw [q] at p3
        dsimp only at p3
        cases qj : ixN ds.length z with
        | none => rw [qj] at p3; exact p3.elim
        | some j =>
          rw [qj] at p3
          obtain ⟨l, e1, e2, hF, vs, hv, rs⟩ := w3.ref (mono_D.up x3 ro) (lstAt_of q)
          subst e1
          have hz : t = V.int z := rk
          refine ⟨l, vs, z, j, rfl, hz, hv, by rw [← rs.length]; exact qj, ?_⟩
          have rset := rs.set (mono_D.up (x2.trans x3) rd) j
          obtain ⟨x4, w4⟩ := sto_write (o := .lst (vs.set j v)) (ob := .lst (ds.set j d)) w3 e2 ⟨_, hv⟩ hF ⟨_, upd_same, rset⟩
          exact p3 σ _ α3 F3 (x4.from0 _) w4 (r3.ex x4)
    | _ => exact p3.elim
  | _ => exact p3.elim
/-- name op= e -/
def gAug (i : Nat) (f : Sto → D → D → Option D) (g : GE) : GS := fun e S => match e[i]? with
  | some (.dat x) => gE (g e S) e fun y S1 => match f S1 x y with
    | some z => .ok (.nx (e.set i (.dat z))) S1
    | none => .stuck
  | _ => .stuck
theorem ds_aug {i : Nat} {x : Str} {op : Operator} {rr : R2} {f : Sto → D → D → Option D} {px : Pos} (hN : X.N.Nodup) (hi : X.N[i]? = some x) (hx : Loc X.env.scope x) (ho : OpR X (inplaceOp op) rr) (hf : OpD X.K rr f) (ha : DE X W a ga)
    (hfn : X.fn x = true ∨ X.env.scope.names.lookup x = some .local := by first | exact .inl rfl | exact .inr rfl | assumption) : DS X W (.AugAssign (.Name x px) op a pos) (gAug i f ga) := by
  refine ps_weak (ps_aug hN hi hx ha ho hfn) fun D σ H h => ?_
  obtain ⟨α, F, e, S, w, r, p⟩ := h
  unfold gAug at p
  split at p
  · rename_i dx hd
    obtain ⟨v, h1, h2⟩ := r.dat i dx hd
    refine ⟨v, h1, ?_⟩
    refine tG.mono ⟨α, F, e, S, w, r, gE_post r p⟩ fun u H1 ⟨d, α1, F1, S1, x, w1, r1, rd, p1, p0⟩ => ?_
    cases q : f S1 dx d with
    | none => rw [q] at p1; exact p1.elim
    | some z =>
      rw [q] at p1
      refine hf α1 F1 S1 H1 v u dx d z _ w1 (mono_D.up x h2) rd q fun t H2 α2 F2 x2 w2 r2 => ?_
      have r3 := (r1.ex x2).set (i := i) (sl := .dat z) (v := t) r2 (fun ds e => nomatch e)
      refine p1 _ H2 α2 F2 ⟨x2.pre, x2.sub, fun a o h ha _ => x2.kp a o h ha (fun z => z), fun a o h => (x2.new a o h).elim .inl fun z => z.elim (fun q => q.elim) fun q => .inr (.inr q), fun a h => ?_, x2.dom⟩ w2 r3
      rcases own_set h with z | ⟨⟨ds, e1⟩, e2⟩
      · exact .inl z
      · cases e1
  · exact p.elim
/-! own lists read -/
def gIxOwn (i : Nat) (g : GE) : GE := fun e S => match ownAt e i with
  | none => .stuck
  | some ds => (g e S).bind fun k S1 => lift (ixD S1 (.lst ds) k) S1
theorem de_ixOwn {i : Nat} {x : Str} {px : Pos} (hN : X.N[i]? = some x) (hv : Vis X.env.scope x) (hb : DE X W b gb) (hs : PlainIx b := by exact fun _ _ => rfl)
    (hd : (x == ("__debug__" : Str)) = false := by decide) (hcd : (x == ("__classdict__" : Str)) = false := by decide) : DE X W (.Subscript (.Name x px) b pos) (gIxOwn i gb) := by
  refine pe_weak (pe_ix ix_list (pe_var hN hv hd hcd) hb hs) fun σ H Q h => ?_
  obtain ⟨α, F, e, S, w, r, p⟩ := h
  unfold gIxOwn at p
  cases q : ownAt e i with
  | none => rw [q] at p; exact p.elim
  | some ds =>
    rw [q] at p
    obtain ⟨l, vs, hs, hH, rs, hF, hα⟩ := r.own i ds (ownAt_of q)
    refine ⟨.ref l, hs, ?_⟩
    have h2 : At X.K W (RD X.K) (fun _ _ _ => True) (fun e S => (gb e S).bind fun k S1 => lift (ixD S1 (.lst ds) k) S1) σ H Q ∧ True := ⟨⟨α, F, e, S, w, r, trivial, p⟩, trivial⟩
    have h3 : At X.K W (RD X.K) (fun α' F' H' => H' l = some (.lst vs) ∧ l ∉ α' ∧ Reps X.K α' F' ds vs) (fun e S => (gb e S).bind fun k S1 => lift (ixD S1 (.lst ds) k) S1) σ H Q := ⟨α, F, e, S, w, r, ⟨hH, hα, rs⟩, p⟩
    refine h3.bind ⟨fun {α F H α' F' H'} x h => ⟨x.kp l _ h.1 h.2.1 (fun z => z), fun hm => ?_, mono_A.up x h.2.2⟩⟩ mono_D |>.mono fun y H1 ⟨k, α1, F1, e1, S1, w1, r1, ⟨⟨h1, h2, h3⟩, rk⟩, p1⟩ => ?_
    · cases k with
      | int z =>
        dsimp only at p1
        cases q2 : ixD S1 (.lst ds) (.int z) with
        | none => rw [q2] at p1; exact p1.elim
        | some d =>
          rw [q2] at p1
          obtain ⟨v, e3, r3⟩ := atI_rep h3 (show atI ds z = some d from q2)
          exact ⟨l, vs, z, v, rfl, rk, .inl (.inl h1), e3, p1.ok w1 r3⟩
      | _ => exact p1.elim
    · obtain ⟨more, e1, f1⟩ := x.pre
      rw [e1] at hm
      rcases List.mem_append.mp hm with z | z
      · exact h.2.1 z
      · rw [f1 l z] at h; cases h.1
def gTruOwn (i : Nat) : GT := fun e S => match ownAt e i with
  | none => .stuck
  | some ds => .ok (!ds.isEmpty) S
theorem dt_truOwn {i : Nat} {x : Str} {px : Pos} (hN : X.N[i]? = some x) (hv : Vis X.env.scope x) (hd : (x == ("__debug__" : Str)) = false := by decide) (hcd : (x == ("__classdict__" : Str)) = false := by decide)
    (he : ∀ whole, isTrue (.Name x px) X.env whole = (do let v ← whole; standAt (Expr.Name x px).pos; holding [v] (truthy v)) := by intro _; rfl) : DT X W (.Name x px) (gTruOwn i) := by
  refine pt_weak (pt_truth (pe_var hN hv hd hcd) he) fun σ H Q h => ?_
  obtain ⟨α, F, e, S, w, r, p⟩ := h
  unfold gTruOwn at p
  cases q : ownAt e i with
  | none => rw [q] at p; exact p.elim
  | some ds =>
    rw [q] at p
    obtain ⟨l, vs, hs, hH, rs, hF, hα⟩ := r.own i ds (ownAt_of q)
    exact ⟨.ref l, hs, !ds.isEmpty, .inl ⟨vs, .inl (.inl hH), by rw [isEmpty_rep rs]⟩, p.ok w rfl⟩
def gLenOwn (i : Nat) : GE := fun e S => match ownAt e i with
  | none => .stuck
  | some ds => .ok (.int ds.length) S
theorem de_lenOwn {i : Nat} {x : Str} {px p : Pos} (hN : X.N[i]? = some x) (hv : Vis X.env.scope x) (hg : Gl X "len") (hm : X.mg "len" = none) (hd : (x == ("__debug__" : Str)) = false := by decide) (hcd : (x == ("__classdict__" : Str)) = false := by decide)
    (he : starEach ((.Name x px) :: []) X.env = (false, eval (.Name x px) X.env) :: starEach [] X.env := by rfl) : DE X W (.Call (.Name "len" p) [.Name x px] [] pos) (gLenOwn i) := by
  refine pe_weak (pe_callB call_len hg hm boot_len (pa_cons (pe_var hN hv hd hcd) pa_nil he) (he := he)) fun σ H Q h => ?_
  obtain ⟨α, F, e, S, w, r, p⟩ := h
  unfold gLenOwn at p
  cases q : ownAt e i with
  | none => rw [q] at p; exact p.elim
  | some ds =>
    rw [q] at p
    obtain ⟨l, vs, hs, hH, rs, hF, hα⟩ := r.own i ds (ownAt_of q)
    exact ⟨.ref l, hs, .ref l, ds.length, rfl, .inl ⟨vs, .inl (.inl hH), rs.length⟩, p.ok w rfl⟩
end

/-! ### targets -/
def gtName (i : Nat) : D → Ev → Option Ev := fun d e => some (e.set i (.dat d))
def gtsNil : List D → Ev → Option Ev := fun ds e => match ds with
  | [] => some e
  | _ => none
def gtsCons (t : D → Ev → Option Ev) (u : List D → Ev → Option Ev) : List D → Ev → Option Ev := fun ds e => match ds with
  | d :: r => (t d e).bind fun e1 => u r e1
  | [] => none
def gtTup (n : Nat) (t : List D → Ev → Option Ev) : D → Ev → Option Ev := fun d e => match d with
  | .tup ds => if ds.length = n then t ds e else none
  | _ => none
/-- behind a target: the slots at ns have changed -/
def TgE (K : PySem.W.Frag) (ns : List Nat) (σ : L2.St) (α : List Addr) (F H : Hp) (e : Ev) (r : Option Ev) (Q : L2.St → Hp → Prop) : Prop := match r with
  | some e' => ∀ σ' : L2.St, EvR K α F H e' σ' → (∀ a, Own e' σ' a → Own e σ a) → σ'.length = σ.length → (∀ j, j ∉ ns → σ'[j]? = σ[j]?) → Q σ' H
  | none => False
def tDG (K : PySem.W.Frag) (ns : List Nat) (t : D → Ev → Option Ev) : TG := fun v σ H Q => ∃ (α : List Addr) (F : Hp) (e : Ev) (S : Sto) (d : D), Wd K α F S H ∧ EvR K α F H e σ ∧ Rep K α F d v ∧ TgE K ns σ α F H e (t d e) Q
def tDGs (K : PySem.W.Frag) (ns : List Nat) (t : List D → Ev → Option Ev) : TGs := fun vs σ H Q => ∃ (α : List Addr) (F : Hp) (e : Ev) (S : Sto) (ds : List D), Wd K α F S H ∧ EvR K α F H e σ ∧ Reps K α F ds vs ∧ TgE K ns σ α F H e (t ds e) Q
structure DG (X : Cx) (tg : Expr) (ns : List Nat) (t : D → Ev → Option Ev) : Prop where
  run : PG X tg (tDG X.K ns t)
structure DGs (X : Cx) (tgs : List Expr) (ns : List Nat) (t : List D → Ev → Option Ev) : Prop where
  run : PGs X tgs (tDGs X.K ns t)
theorem pg_weak {X : Cx} {tg : Expr} {t t' : TG} (h : PG X tg t) (w : ∀ v σ H Q, t' v σ H Q → t v σ H Q) : PG X tg t' := ⟨fun pins s σ H v u Q I r q => h.run pins s σ H v u Q I r (w v σ H Q q)⟩
theorem pgs_weak {X : Cx} {tg : List Expr} {t t' : TGs} (h : PGs X tg t) (w : ∀ v σ H Q, t' v σ H Q → t v σ H Q) : PGs X tg t' := ⟨fun pins s σ H v u Q I r q => h.run pins s σ H v u Q I r (w v σ H Q q)⟩
section
variable {X : Cx} {W : WX} {pos : Pos}
theorem dg_name {i : Nat} {x : Str} (hN : X.N.Nodup) (hi : X.N[i]? = some x) (hx : Loc X.env.scope x) (hf : X.fn x = true ∨ X.env.scope.names.lookup x = some .local := by first | exact .inl rfl | exact .inr rfl | assumption) : DG X (.Name x pos) [i] (gtName i) :=
  ⟨pg_weak (pg_name hN hi hx hf) fun v σ H Q h => by
    obtain ⟨α, F, e, S, d, w, r, rd, q⟩ := h
    refine q _ (r.set (sl := .dat d) rd (fun ds e => nomatch e)) (fun a ha => ?_) (by rw [List.length_set]) fun j hj => ?_
    · rcases own_set ha with z | ⟨⟨ds, e1⟩, _⟩
      · exact z
      · cases e1
    · rw [List.getElem?_set_ne (by intro z; exact hj (by simp [z]))]⟩
theorem dgs_nil : DGs X [] [] gtsNil := ⟨pgs_weak pgs_nil fun vs σ H Q h => by
  obtain ⟨α, F, e, S, ds, w, r, rd, q⟩ := h
  cases ds with
  | nil => exact ⟨rd, q σ r (fun _ h => h) rfl fun _ _ => rfl⟩
  | cons d ds => exact q.elim⟩
theorem dgs_cons {e : Expr} {es : List Expr} {ns ms : List Nat} {t : D → Ev → Option Ev} {u : List D → Ev → Option Ev} (h1 : DG X e ns t) (h2 : DGs X es ms u)
    (hs : (assignEach (e :: es) X.env).map (·.2) = assign e X.env :: (assignEach es X.env).map (·.2) := by rfl) : DGs X (e :: es) (ns ++ ms) (gtsCons t u) := ⟨pgs_weak (pgs_cons h1.run h2.run hs) fun vs σ H Q h => by
  obtain ⟨α, F, e, S, ds, w, r, rd, q⟩ := h
  cases ds with
  | nil => exact q.elim
  | cons d ds =>
    obtain ⟨v, vs', rfl, rv, rs⟩ := rd
    refine ⟨v, vs', rfl, α, F, e, S, d, w, r, rv, ?_⟩
    have q : TgE X.K (ns ++ ms) σ α F H e ((t d e).bind fun e1 => u ds e1) Q := q
    cases z : t d e with
    | none => rw [z] at q; exact q.elim
    | some e1 =>
      rw [z] at q
      intro σ1 r1 o1 l1 k1
      refine ⟨α, F, e1, S, ds, w, r1, rs, ?_⟩
      have q : TgE X.K (ns ++ ms) σ α F H e (u ds e1) Q := q
      cases z2 : u ds e1 with
      | none => rw [z2] at q; exact q.elim
      | some e2 =>
        rw [z2] at q
        exact fun σ2 r2 o2 l2 k2 => q σ2 r2 (fun a h => o1 a (o2 a h)) (l2.trans l1) fun j hj => (k2 j (fun h => hj (List.mem_append_right _ h))).trans (k1 j fun h => hj (List.mem_append_left _ h))⟩
theorem dg_tup {es : List Expr} {k : Nat} {ns : List Nat} {t : List D → Ev → Option Ev} {n : Nat} (hc : X.calm = true) (h : DGs X es ns t)
    (hn : (assignEach es X.env).length = n := by rfl) (hst : (assignEach es X.env).findIdx? (·.1) = none := by rfl) : DG X (.Tuple es k pos) ns (gtTup n t) := ⟨pg_weak (pg_tup hc h.run hn hst) fun v σ H Q h => by
  obtain ⟨α, F, e, S, d, w, r, rd, q⟩ := h
  cases d with
  | tup ds =>
    obtain ⟨a, vs, rfl, h1, rs⟩ := rd
    unfold gtTup at q
    dsimp only at q
    by_cases hl : ds.length = n
    · rw [if_pos hl] at q
      exact ⟨a, vs, rfl, SqT.up h1 w.sub, by rw [← rs.length]; exact hl, α, F, e, S, ds, w, r, rs, q⟩
    · rw [if_neg hl] at q; exact q.elim
  | _ => exact q.elim⟩
/-- target = e, the target a tuple of names -/
def gAsg (t : D → Ev → Option Ev) (g : GE) : GS := fun e S => gE (g e S) e fun d S1 => match t d e with
  | some e' => .ok (.nx e') S1
  | none => .stuck
theorem ds_asg {a tg : Expr} {ga : GE} {ns : List Nat} {t : D → Ev → Option Ev} (hg : DG X tg ns t) (ha : DE X W a ga)
    (hs : swapsWithSole [tg] a pos.line X.env = pure false := by rfl) (hw : swappedStores [tg] a X.env = pure none := by rfl)
    (h1 : (assignEach [tg] X.env).map (·.2) = [assign tg X.env] := by rfl) : DS X W (.Assign [tg] a pos) (gAsg t ga) := by
  refine ps_weak (ps_asg ha hg.run hs hw h1) fun D σ H h => ?_
  obtain ⟨α, F, e, S, w, r, p⟩ := h
  refine tG.mono ⟨α, F, e, S, w, r, gE_post r p⟩ fun v H1 ⟨d, α1, F1, S1, x, w1, r1, rd, p1, p0⟩ => ?_
  refine ⟨α1, F1, e, S1, d, w1, r1, rd, ?_⟩
  cases z : t d e with
  | none => rw [z] at p1; exact p1.elim
  | some e' =>
    rw [z] at p1
    exact fun σ' r' o' _ _ => p1.nx' w1 r' fun a h => .inl (o' a h)
end
end DL
set_option maxHeartbeats 2000000
namespace DL
open PySem PySem.Spec L2

/-! ### what is walked -/
/-- the iterator J yields the items ds, whatever happens to what may change -/
def ItR (K : PySem.W.Frag) (α : List Addr) (F : Hp) (ds : List D) (J : It) : Prop :=
  ∀ (α2 : List Addr) (F2 : Hp) (S2 : Sto) (H2 : Hp), (∀ a o, F a = some o → F2 a = some o) → (∀ (i : Nat) (a : Addr), α[i]? = some a → α2[i]? = some a) → Wd K α2 F2 S2 H2 → ∀ i : Nat,
    (i < ds.length → J.go i H2) ∧ (ds.length = i → J.stop i H2) ∧
    ∀ (x : V) (H3 : Hp), i < ds.length → J.yld i H2 x H3 → ∃ (d : D) (F3 : Hp), ds[i]? = some d ∧ Ex α2 F2 H2 α2 F3 H3 ∧ Wd K α2 F3 S2 H3 ∧ Rep K α2 F3 d x
abbrev RI (K : PySem.W.Frag) : List Addr → Hp → Hp → List D → It → Prop := fun α F _ ds J => ItR K α F ds J
abbrev GI := Ev → Sto → Res (List D)
abbrev DI (X : Cx) (W : WX) (tg iter : Expr) (g : GI) : Prop := PI X tg iter (tG X.K W (RI X.K) g)
theorem pi_weak {X : Cx} {tg iter : Expr} {t t' : TI} (h : PI X tg iter t) (w : ∀ σ H R, t' σ H R → t σ H R) : PI X tg iter t' := ⟨fun pins s σ H R I q => h.run pins s σ H R I (w σ H R q)⟩
theorem itr_list {K : PySem.W.Frag} {α : List Addr} {F : Hp} {ds : List D} {vs : List V} {a : Addr} (h : F a = some (.lst vs)) (r : Reps K α F ds vs) : ItR K α F ds (Itl K a) := by
  intro α2 F2 S2 H2 hs hp w i
  have hH : SqL K H2 a vs := .inl (.inl (w.sub _ _ (hs _ _ h)))
  have hl := r.length
  refine ⟨fun hi => ⟨vs, vs[i]'(by omega), hH, List.getElem?_eq_getElem (by omega)⟩, fun hi => ⟨vs, hH, by omega⟩, fun x H3 hi y => ?_⟩
  obtain ⟨e, y⟩ := y
  subst e
  obtain ⟨d, e1, rd⟩ := r.get' (y vs hH)
  exact ⟨d, F2, e1, (Ext.refl _ _ _ _).noO, w, Rep.up hs hp rd⟩
theorem itr_tup {K : PySem.W.Frag} {α : List Addr} {F : Hp} {ds : List D} {vs : List V} {a : Addr} (h : TupR K F a vs) (r : Reps K α F ds vs) : ItR K α F ds (Itt K a) := by
  intro α2 F2 S2 H2 hs hp w i
  have hH : SqT K H2 a vs := SqT.up h fun b o q => w.sub _ _ (hs _ _ q)
  have hl := r.length
  refine ⟨fun hi => ⟨vs, vs[i]'(by omega), hH, List.getElem?_eq_getElem (by omega)⟩, fun hi => ⟨vs, hH, by omega⟩, fun x H3 hi y => ?_⟩
  obtain ⟨e, y⟩ := y
  subst e
  obtain ⟨d, e1, rd⟩ := r.get' (y vs hH)
  exact ⟨d, F2, e1, (Ext.refl _ _ _ _).noO, w, Rep.up hs hp rd⟩
def rangeL (lo : Int) (n : Nat) : List D := (List.range n).map fun i => .int (lo + (i : Nat))
theorem rangeL_get {lo : Int} {n i : Nat} (h : i < n) : (rangeL lo n)[i]? = some (.int (lo + (i : Nat))) := by
  unfold rangeL
  rw [List.getElem?_map, List.getElem?_range h]
  rfl
theorem rangeL_length {lo : Int} {n : Nat} : (rangeL lo n).length = n := by unfold rangeL; rw [List.length_map, List.length_range]
theorem itr_range {K : PySem.W.Frag} {α : List Addr} {F : Hp} (lo : Int) (n : Nat) : ItR K α F (rangeL lo n) (Itr lo n) := by
  intro α2 F2 S2 H2 hs hp w i
  rw [rangeL_length]
  refine ⟨fun h => h, fun h => Nat.le_of_eq h, fun x H3 hi y => ?_⟩
  obtain ⟨e1, e2⟩ := y
  subst e1 e2
  exact ⟨_, F2, rangeL_get hi, (Ext.refl _ _ _ _).noO, w, rfl⟩
/-- a new pair -/
theorem new_pair {K : PySem.W.Frag} {α : List Addr} {F H : Hp} {S : Sto} {T : Addr} {a b : D} {x y : V} (w : Wd K α F S H) (hT : H T = none) (ra : Rep K α F a x) (rb : Rep K α F b y) :
    ∃ F3, Ex α F H α F3 (upd H T (.tup [x, y])) ∧ Wd K α F3 S (upd H T (.tup [x, y])) ∧ Rep K α F3 (.tup [a, b]) (.ref T) := by
  obtain ⟨x', w', e'⟩ := ext_new (o := .tup [x, y]) w hT
  exact ⟨_, x', w', T, [x, y], rfl, .inl e', Reps.cons (mono_D.up x' ra) (Reps.one (mono_D.up x' rb))⟩
def enumL (k : Nat) : List D → List D
  | [] => []
  | d :: ds => .tup [.int (k : Nat), d] :: enumL (k + 1) ds
theorem enumL_length : ∀ (k : Nat) (ds : List D), (enumL k ds).length = ds.length
  | _, [] => rfl
  | k, d :: ds => by simp [enumL, enumL_length (k + 1) ds]
theorem enumL_get : ∀ (ds : List D) (k i : Nat) (d : D), ds[i]? = some d → (enumL k ds)[i]? = some (.tup [.int ((k + i : Nat) : Int), d])
  | [], _, _, _, h => by simp at h
  | d :: ds, k, 0, e, h => by simp at h; subst h; rfl
  | d :: ds, k, i + 1, e, h => by
    have q := enumL_get ds (k + 1) i e (by simpa using h)
    have e1 : k + 1 + i = k + (i + 1) := by omega
    rw [e1] at q
    exact q
theorem itr_enum {K : PySem.W.Frag} {α : List Addr} {F : Hp} {ds : List D} {vs : List V} {a : Addr} (h : F a = some (.lst vs)) (r : Reps K α F ds vs) : ItR K α F (enumL 0 ds) (Ite K a) := by
  intro α2 F2 S2 H2 hs hp w i
  have hH : SqL K H2 a vs := .inl (.inl (w.sub _ _ (hs _ _ h)))
  have hl := r.length
  rw [enumL_length]
  refine ⟨fun hi => ⟨vs, vs[i]'(by omega), hH, List.getElem?_eq_getElem (by omega)⟩, fun hi => ⟨vs, hH, by omega⟩, fun x H3 hi y => ?_⟩
  obtain ⟨T, z, e1, hT, e2, y⟩ := y
  subst e1 e2
  obtain ⟨d, e1, rd⟩ := r.get' (y vs hH)
  obtain ⟨F3, x3, w3, r3⟩ := new_pair (a := .int (i : Nat)) (b := d) w hT rfl (Rep.up hs hp rd)
  refine ⟨_, F3, enumL_get ds 0 i d e1, x3, w3, ?_⟩
  rw [Nat.zero_add]
  exact r3
def zipL : List D → List D → List D
  | a :: as, b :: bs => .tup [a, b] :: zipL as bs
  | _, _ => []
theorem zipL_length : ∀ (as bs : List D), (zipL as bs).length = min as.length bs.length
  | [], _ => by simp [zipL]
  | _ :: _, [] => by simp [zipL]
  | a :: as, b :: bs => by simp only [zipL, List.length_cons, zipL_length as bs]; omega
theorem zipL_get : ∀ (as bs : List D) (i : Nat) (a b : D), as[i]? = some a → bs[i]? = some b → (zipL as bs)[i]? = some (.tup [a, b])
  | [], _, _, _, _, h, _ => by simp at h
  | _ :: _, [], _, _, _, _, h => by simp at h
  | a :: as, b :: bs, 0, c, d, h1, h2 => by simp at h1 h2; subst h1 h2; rfl
  | a :: as, b :: bs, i + 1, c, d, h1, h2 => by
    have q := zipL_get as bs i c d (by simpa using h1) (by simpa using h2)
    exact q
theorem itr_zip {K : PySem.W.Frag} {α : List Addr} {F : Hp} {ds es : List D} {vs us : List V} {a b : Addr} (h : F a = some (.lst vs)) (r : Reps K α F ds vs) (h' : F b = some (.lst us)) (r' : Reps K α F es us) : ItR K α F (zipL ds es) (Itz K a b) := by
  intro α2 F2 S2 H2 hs hp w i
  have hH : SqL K H2 a vs := .inl (.inl (w.sub _ _ (hs _ _ h)))
  have hH' : SqL K H2 b us := .inl (.inl (w.sub _ _ (hs _ _ h')))
  have hl := r.length
  have hl' := r'.length
  rw [zipL_length]
  refine ⟨fun hi => ⟨vs, us, vs[i]'(by omega), us[i]'(by omega), hH, hH', List.getElem?_eq_getElem (by omega), List.getElem?_eq_getElem (by omega)⟩, fun hi => ⟨vs, us, hH, hH', by omega⟩, fun x H3 hi y => ?_⟩
  obtain ⟨T, z, t, e1, hT, e2, y1, y2⟩ := y
  subst e1 e2
  obtain ⟨d, e1, rd⟩ := r.get' (y1 vs hH)
  obtain ⟨d', e1', rd'⟩ := r'.get' (y2 us hH')
  obtain ⟨F3, x3, w3, r3⟩ := new_pair (a := d) (b := d') w hT (Rep.up hs hp rd) (Rep.up hs hp rd')
  exact ⟨_, F3, zipL_get ds es i d d' e1 e1', x3, w3, r3⟩
theorem itr_zipT {K : PySem.W.Frag} {α : List Addr} {F : Hp} {ds es : List D} {vs us : List V} {a b : Addr} (h : TupR K F a vs) (r : Reps K α F ds vs) (h' : TupR K F b us) (r' : Reps K α F es us) : ItR K α F (zipL ds es) (RZ.ItzT K a b) := by
  intro α2 F2 S2 H2 hs hp w i
  have hH : SqT K H2 a vs := SqT.up h fun b o q => w.sub _ _ (hs _ _ q)
  have hH' : SqT K H2 b us := SqT.up h' fun b o q => w.sub _ _ (hs _ _ q)
  have hl := r.length
  have hl' := r'.length
  rw [zipL_length]
  refine ⟨fun hi => ⟨vs, us, vs[i]'(by omega), us[i]'(by omega), hH, hH', List.getElem?_eq_getElem (by omega), List.getElem?_eq_getElem (by omega)⟩, fun hi => ⟨vs, us, hH, hH', by omega⟩, fun x H3 hi y => ?_⟩
  obtain ⟨T, z, t, e1, hT, e2, y1, y2⟩ := y
  subst e1 e2
  obtain ⟨d, e1, rd⟩ := r.get' (y1 vs hH)
  obtain ⟨d', e1', rd'⟩ := r'.get' (y2 us hH')
  obtain ⟨F3, x3, w3, r3⟩ := new_pair (a := d) (b := d') w hT (Rep.up hs hp rd) (Rep.up hs hp rd')
  exact ⟨_, F3, zipL_get ds es i d d' e1 e1', x3, w3, r3⟩
section
variable {X : Cx} {W : WX} {tg a b : Expr} {ga gb : GE} {pos p tpos : Pos} {elts : List Expr} {kk : Nat}
/-- a list or a tuple, whichever it is -/
def iSeq (K : PySem.W.Frag) (tl : TE) : TI := fun σ H R => tl σ H fun x H1 => ∃ a, x = .ref a ∧ ((∃ xs, SqL K H1 a xs ∧ R (Itl K a) H1) ∨ (∃ xs, SqT K H1 a xs ∧ R (Itt K a) H1))
theorem pi_seq {l : Expr} {tl : TE} (hl : PE X l tl) : PI X tg l (iSeq X.K tl) := by
  refine ⟨fun pins s σ H R I h => ?_⟩
  refine thn (hl.run pins s σ H _ I h) fun v s1 ⟨x, H1, I1, r1, q1⟩ => ?_
  obtain ⟨a, e, ⟨xs, hq, q⟩ | ⟨xs, hq, q⟩⟩ := q1
  · subst e
    cases r1
    obtain ⟨its, rv, p, hz⟩ := I1.list hq
    refine wpAny_pyIter_list p.isList ?_
    refine ⟨s1.heap.objs.size, [s1.heap.objs.size], _, _, H1, rfl, I1.kept (t' := s1.toks) fun b o e => Heap.get?_push_of_some _ e, turn_list a _, ⟨_, Heap.get?_push_size _ rfl, rfl, rfl⟩, fun b hb => ?_, q⟩
    have e : b = s1.heap.objs.size := by simpa using hb
    subst e
    exact I1.fpOk (Nat.le_refl _) (I1.hok.fresh (Nat.le_refl _))
  · subst e
    cases r1
    obtain ⟨its, rv, p, hz⟩ := I1.tuple hq
    refine wpAny_pyIter_tuple (show s1.heap.IsTuple a its.toArray from p) ?_
    refine ⟨s1.heap.objs.size, [s1.heap.objs.size], _, _, H1, rfl, I1.kept (t' := s1.toks) fun b o e => Heap.get?_push_of_some _ e, turn_tuple a _, ⟨_, Heap.get?_push_size _ rfl, rfl, rfl⟩, fun b hb => ?_, q⟩
    have e : b = s1.heap.objs.size := by simpa using hb
    subst e
    exact I1.fpOk (Nat.le_refl _) (I1.hok.fresh (Nat.le_refl _))
def seqD : D → Option (List D)
  | .lst ds => some ds
  | .tup ds => some ds
  | _ => none
def gSeqI (g : GE) : GI := fun e S => (g e S).bind fun a S1 => lift (seqD a) S1
theorem di_seq (ha : DE X W a ga) : DI X W tg a (gSeqI ga) := by
  refine pi_weak (pi_seq ha) fun σ H R h => ?_
  refine (tG.at h).bind mono_true mono_D |>.mono fun x H1 ⟨d, α, F, e, S, w, re, ⟨_, rd⟩, p⟩ => ?_
  cases d with
  | lst ds =>
    obtain ⟨l, vs, rfl, h1, rs⟩ := rd
    exact ⟨l, rfl, .inl ⟨vs, .inl (.inl (w.sub _ _ h1)), p.ok w (itr_list h1 rs)⟩⟩
  | tup ds =>
    obtain ⟨l, vs, rfl, h1, rs⟩ := rd
    exact ⟨l, rfl, .inr ⟨vs, SqT.up h1 w.sub, p.ok w (itr_tup h1 rs)⟩⟩
  | _ => exact p.elim
def rngOk (i j : Int) : Bool := decide (-(2 ^ 62) ≤ i ∧ i < 2 ^ 62 ∧ -(2 ^ 62) ≤ j ∧ j < 2 ^ 62)
def rng1D : List D → Option (List D)
  | [.int j] => if rngOk 0 j = true then some (rangeL 0 j.toNat) else none
  | _ => none
def rng2D : List D → Option (List D)
  | [.int i, .int j] => if rngOk i j = true then some (rangeL i (j - i).toNat) else none
  | _ => none
def gRng1 (gs : GA) : GI := fun e S => (gs e S).bind fun as S1 => lift (rng1D as) S1
def gRng2 (gs : GA) : GI := fun e S => (gs e S).bind fun as S1 => lift (rng2D as) S1
theorem di_range1 {gs : GA} (hg : Gl X "range") (hm : X.mg "range" = none) (ha : DA X W [a] gs) (hs : starEach [a] X.env = [(false, eval a X.env)] := by rfl) : DI X W tg (.Call (.Name "range" p) [a] [] pos) (gRng1 gs) := by
  refine pi_weak (pi_range1 hg hm ha hs) fun σ H R h => ?_
  refine (tG.at h).bind mono_true mono_A |>.mono fun xs H1 ⟨as, α, F, e, S, w, re, ⟨_, rd⟩, p⟩ => ?_
  dsimp only at p
  unfold rng1D at p
  split at p
  · split at p
    · rename_i h
      have h := of_decide_eq_true h
      obtain ⟨x, rfl, rx⟩ := reps1 rd
      exact ⟨_, by rw [show x = _ from rx], h.2.2.1, h.2.2.2, p.ok w (itr_range _ _)⟩
    · exact p.elim
  · exact p.elim
theorem di_range2 {gs : GA} (hg : Gl X "range") (hm : X.mg "range" = none) (ha : DA X W [a, b] gs) (hs : starEach [a, b] X.env = [(false, eval a X.env), (false, eval b X.env)] := by rfl) (hs2 : starEach [b] X.env = [(false, eval b X.env)] := by rfl) :
    DI X W tg (.Call (.Name "range" p) [a, b] [] pos) (gRng2 gs) := by
  refine pi_weak (pi_range2 hg hm ha hs hs2) fun σ H R h => ?_
  refine (tG.at h).bind mono_true mono_A |>.mono fun xs H1 ⟨as, α, F, e, S, w, re, ⟨_, rd⟩, p⟩ => ?_
  dsimp only at p
  unfold rng2D at p
  split at p
  · split at p
    · rename_i h
      have h := of_decide_eq_true h
      obtain ⟨x, y, rfl, rx, ry⟩ := reps2 rd
      exact ⟨_, _, by rw [show x = _ from rx, show y = _ from ry], h, p.ok w (itr_range _ _)⟩
    · exact p.elim
  · exact p.elim
/-- list(range(n)) -/
def lrgOk (j : Int) : Bool := decide (j ≤ 16777216)
def gListRg (g : GE) : GE := fun e S => (g e S).bind fun a S1 => match a with
  | .int j => if lrgOk j = true ∧ 0 ≤ j then .ok (.lst (rangeL 0 j.toNat)) S1 else .stuck
  | _ => .stuck
theorem rgV_eq (j : Int) : rgV 0 j = (List.range j.toNat).map fun i => V.int (0 + (i : Nat)) := by unfold rgV; rw [Int.sub_zero]
theorem rangeL_rep {K : PySem.W.Frag} {α : List Addr} {F : Hp} (lo : Int) (n : Nat) : Reps K α F (rangeL lo n) ((List.range n).map fun i => V.int (lo + (i : Nat))) := by
  unfold rangeL
  have : ∀ l : List Nat, Reps K α F (l.map fun i => D.int (lo + (i : Nat))) (l.map fun i => V.int (lo + (i : Nat))) := fun l => by
    induction l with
    | nil => exact Reps.nil
    | cons x l ih => exact Reps.cons rfl ih
  exact this _
theorem de_listRg {p2 pos2 : Pos} (hc : X.calm = true) (hg : Gl X "list") (hm : X.mg "list" = none) (hg2 : Gl X "range") (hm2 : X.mg "range" = none) (ha : DE X W a ga) (na : starEach [a] X.env = (false, eval a X.env) :: starEach [] X.env := by rfl)
    (nb : starEach [Expr.Call (.Name "range" p2) [a] [] pos2] X.env = (false, eval (.Call (.Name "range" p2) [a] [] pos2) X.env) :: starEach [] X.env := by rfl) :
    DE X W (.Call (.Name "list" p) [.Call (.Name "range" p2) [a] [] pos2] [] pos) (gListRg ga) := by
  refine pe_weak (pe_listRg hc hg hm (prg_1 hg2 hm2 ha na) nb) fun σ H Q h => ?_
  refine (tG.at h).bind mono_true mono_D |>.mono fun x H1 ⟨d, α, F, e, S, w, re, ⟨_, rd⟩, p⟩ => ?_
  cases d with
  | int j =>
    dsimp only at p
    split at p
    · rename_i hj
      have h1 := of_decide_eq_true hj.1
      have h2 := hj.2
      refine ⟨j, rd, RgOk.of_le (by omega) (by omega) (by omega) (by omega), fun t ht => ?_⟩
      rw [rgV_eq]
      obtain ⟨x', w', e'⟩ := ext_new (o := .lst ((List.range j.toNat).map fun i => V.int (0 + (i : Nat)))) w ht
      exact p _ _ _ _ x' w' ⟨t, _, rfl, e', rangeL_rep _ _⟩
    · exact p.elim
  | _ => exact p.elim
def enumD : List D → Option (List D)
  | [.lst ds] => some (enumL 0 ds)
  | _ => none
def gEnum (gs : GA) : GI := fun e S => (gs e S).bind fun as S1 => lift (enumD as) S1
theorem di_enum {gs : GA} (hg : Gl X "enumerate") (hm : X.mg "enumerate" = none) (ha : DA X W [a] gs) (hs : starEach [a] X.env = [(false, eval a X.env)] := by rfl) :
    DI X W (.Tuple elts kk tpos) (.Call (.Name "enumerate" p) [a] [] pos) (gEnum gs) := by
  refine pi_weak (pi_enum hg hm ha hs) fun σ H R h => ?_
  refine (tG.at h).bind mono_true mono_A |>.mono fun xs H1 ⟨as, α, F, e, S, w, re, ⟨_, rd⟩, p⟩ => ?_
  dsimp only at p
  unfold enumD at p
  split at p
  · obtain ⟨x, rfl, l, vs, rfl, h1, rs⟩ := reps1 rd
    exact ⟨l, vs, rfl, .inl (.inl (w.sub _ _ h1)), p.ok w (itr_enum h1 rs)⟩
  · exact p.elim
def zipD : List D → Option (List D)
  | [.lst ds, .lst es] => some (zipL ds es)
  | [.tup ds, .tup es] => some (zipL ds es)
  | _ => none
def gZip (gs : GA) : GI := fun e S => (gs e S).bind fun as S1 => lift (zipD as) S1
theorem di_zip {gs : GA} (hg : Gl X "zip") (hm : X.mg "zip" = none) (ha : DA X W [a, b] gs)
    (hs : starEach [a, b] X.env = (false, eval a X.env) :: starEach [b] X.env := by rfl) (hpl : (backTo pos (starEach [b] X.env)).any (·.1) = false := by rfl) :
    DI X W (.Tuple elts kk tpos) (.Call (.Name "zip" p) [a, b] [] pos) (gZip gs) := by
  refine pi_weak (RZ.pi_zipA hg hm ha hs hpl) fun σ H R h => ?_
  refine (tG.at h).bind mono_true mono_A |>.mono fun xs H1 ⟨as, α, F, e, S, w, re, ⟨_, rd⟩, p⟩ => ?_
  dsimp only at p
  unfold zipD at p
  split at p
  · obtain ⟨x, y, rfl, ⟨l, vs, rfl, h1, rs⟩, ⟨l', us, rfl, h1', rs'⟩⟩ := reps2 rd
    exact ⟨l, l', vs, us, rfl, .inl ⟨.inl (.inl (w.sub _ _ h1)), .inl (.inl (w.sub _ _ h1')), p.ok w (itr_zip h1 rs h1' rs')⟩⟩
  · obtain ⟨x, y, rfl, ⟨l, vs, rfl, h1, rs⟩, ⟨l', us, rfl, h1', rs'⟩⟩ := reps2 rd
    exact ⟨l, l', vs, us, rfl, .inr ⟨SqT.up h1 w.sub, SqT.up h1' w.sub, p.ok w (itr_zipT h1 rs h1' rs')⟩⟩
  · exact p.elim
end

/-! ### for -/
def runFor (gt : D → Ev → Option Ev) (gb : GS) : List D → Ev → Sto → Res Fl
  | [], e, S => .ok (.nx e) S
  | d :: ds, e, S => match gt d e with
    | none => .stuck
    | some e1 => match gb e1 S with
      | .ok (.nx e2) S2 => runFor gt gb ds e2 S2
      | .ok (.ct e2) S2 => runFor gt gb ds e2 S2
      | .ok (.bk e2) S2 => .ok (.nx e2) S2
      | r => r
def gFor (gi : GI) (gt : D → Ev → Option Ev) (gb : GS) : GS := fun e S => gE (gi e S) e fun ds S1 => runFor gt gb ds e S1
section
variable {K : PySem.W.Frag} {O O' O1 : Addr → Prop} {α α1 : List Addr} {F F1 H H1 : Hp}
theorem Ext.weakO (x : Ext O α F H O1 α1 F1 H1) (h : ∀ a, O a → O' a) : Ext O' α F H O1 α1 F1 H1 :=
  ⟨x.pre, x.sub, fun a o q ha ho => x.kp a o q ha (fun z => ho (h a z)), fun a o q => (x.new a o q).elim .inl fun z => z.elim (fun y => .inr (.inl (h a y))) fun y => .inr (.inr y), fun a q => (x.own a q).elim (fun y => .inl (h a y)) .inr, x.dom⟩
end
section
variable {X : Cx} {W : WX} {tg iter : Expr} {pos : Pos}
theorem ds_for {body : List Stmt} {gi : GI} {ns : List Nat} {gt : D → Ev → Option Ev} {gb : GS} (hp : PassesOwn (model X.prog X.w) X.A X.env X.xe) (hc : X.calm = true) (hi : DI X W tg iter gi) (hg : DG X tg ns gt) (hb : DSs X W body gb)
    (hs : ∀ x, foldedSetIterable iter X.env x = pure x := by intro _; rfl) : DS X W (.For tg iter body [] pos) (gFor gi gt gb) := by
  refine ps_weak (ps_for hp hc hi hg.run hb hs) fun D σ H h => ?_
  obtain ⟨α, F, e, S, w, r, p⟩ := h
  refine tG.mono ⟨α, F, e, S, w, r, gE_post r p⟩ fun J H1 ⟨ds, α1, F1, S1, x, w1, r1, rj, p1, p0⟩ => ?_
  refine ⟨fun i m σ' H' => m = ds.length - i ∧ i ≤ ds.length ∧ ∃ (α2 : List Addr) (F2 : Hp) (e2 : Ev) (S2 : Sto), (∀ a o, F1 a = some o → F2 a = some o) ∧ (∀ (j : Nat) (a : Addr), α1[j]? = some a → α2[j]? = some a) ∧
    Wd X.K α2 F2 S2 H' ∧ EvR X.K α2 F2 H' e2 σ' ∧ PostS X.K W (Own e2 σ') α2 F2 H' (runFor gt gb (ds.drop i) e2 S2) D, ⟨ds.length, by simp, Nat.zero_le _, α1, F1, e, S1, fun _ _ h => h, fun _ _ h => h, w1, r1, p1⟩, ?_⟩
  rintro i m σ' H' ⟨rfl, hi, α2, F2, e2, S2, hs2, hp2, w2, r2, p2⟩
  obtain ⟨j1, j2, j3⟩ := rj α2 F2 S2 H' hs2 hp2 w2 i
  by_cases hlt : i < ds.length
  · refine .inr ⟨j1 hlt, fun σ' H' => i + 1 ≤ ds.length ∧ ∃ (α2 : List Addr) (F2 : Hp) (e2 : Ev) (S2 : Sto), (∀ a o, F1 a = some o → F2 a = some o) ∧ (∀ (j : Nat) (a : Addr), α1[j]? = some a → α2[j]? = some a) ∧
      Wd X.K α2 F2 S2 H' ∧ EvR X.K α2 F2 H' e2 σ' ∧ PostS X.K W (Own e2 σ') α2 F2 H' (runFor gt gb (ds.drop (i + 1)) e2 S2) D, fun σ3 H3 q => ⟨ds.length - (i + 1), by omega, rfl, q⟩, fun y H3 hy => ?_⟩
    obtain ⟨d, F3, e1, x3, w3, rd⟩ := j3 y H3 hlt hy
    have hdrop : ds.drop i = d :: ds.drop (i + 1) := by
      obtain ⟨hq, e1'⟩ := List.getElem?_eq_some_iff.mp e1
      rw [← e1', ← List.drop_eq_getElem_cons hq]
    rw [hdrop] at p2
    refine ⟨α2, F3, e2, S2, d, w3, r2.ex x3, rd, ?_⟩
    unfold runFor at p2
    cases z : gt d e2 with
    | none => rw [z] at p2; exact p2.elim
    | some e3 =>
      rw [z] at p2
      intro σ3 r3 o3 _ _
      refine ⟨α2, F3, e3, S2, w3, r3, ?_⟩
      dsimp only at p2
      have xx : Ext (Own e2 σ') α2 F2 H' (Own e3 σ3) α2 F3 H3 := ⟨x3.pre, x3.sub, fun a o q ha _ => x3.kp a o q ha (fun z => z), fun a o q => (x3.new a o q).elim .inl fun z => z.elim (fun y => y.elim) fun y => .inr (.inr y), fun a q => .inl (o3 a q), x3.dom⟩
      have again : ∀ {e4 : Ev} {S4 : Sto}, PostS X.K W (Own e2 σ') α2 F2 H' (runFor gt gb (ds.drop (i + 1)) e4 S4) D → ∀ (σ4 : L2.St) (H4 : Hp) (α4 : List Addr) (F4 : Hp), Ext (Own e3 σ3) α2 F3 H3 (Own e4 σ4) α4 F4 H4 → Wd X.K α4 F4 S4 H4 → EvR X.K α4 F4 H4 e4 σ4 →
          i + 1 ≤ ds.length ∧ ∃ (α2 : List Addr) (F2 : Hp) (e2 : Ev) (S2 : Sto), (∀ a o, F1 a = some o → F2 a = some o) ∧ (∀ (j : Nat) (a : Addr), α1[j]? = some a → α2[j]? = some a) ∧
          Wd X.K α2 F2 S2 H4 ∧ EvR X.K α2 F2 H4 e2 σ4 ∧ PostS X.K W (Own e2 σ4) α2 F2 H4 (runFor gt gb (ds.drop (i + 1)) e2 S2) D := fun {e4 S4} p4 σ4 H4 α4 F4 x4 w4 r4 =>
        ⟨hlt, α4, F4, e4, S4, fun a o q => x4.sub _ _ (x3.sub _ _ (hs2 a o q)), fun j a q => x4.at _ _ (hp2 j a q), w4, r4, PostS.trans (xx.trans x4) p4⟩
      cases z4 : gb e3 S2 with
      | ok fl S4 =>
        rw [z4] at p2
        cases fl with
        | nx e4 => exact again p2
        | ct e4 => exact again p2
        | bk e4 => exact fun σ4 H4 α4 F4 x4 w4 r4 => p2 σ4 H4 α4 F4 (xx.trans x4) w4 r4
        | rt v => exact PostS.trans xx p2
        | xx e4 y => exact PostS.trans xx p2
      | ex y S4 => rw [z4] at p2; exact p2
      | stuck => rw [z4] at p2; exact p2
  · have e : i = ds.length := by omega
    subst e
    rw [List.drop_length] at p2
    exact .inl ⟨j2 rfl, p2.nx' w2 r2 fun a h => .inl h⟩
/-! ### while -/
def runWhile (t : GT) (g : GS) : Nat → Ev → Sto → Res Fl
  | 0, _, _ => .stuck
  | n + 1, e, S => gE (t e S) e fun k S1 => if k = true then (match g e S1 with
      | .ok (.nx e2) S2 => runWhile t g n e2 S2
      | .ok (.ct e2) S2 => runWhile t g n e2 S2
      | .ok (.bk e2) S2 => .ok (.nx e2) S2
      | r => r) else .ok (.nx e) S1
open Classical in
noncomputable def gWhile (t : GT) (g : GS) : GS := fun e S => if h : ∃ n, runWhile t g n e S ≠ .stuck then runWhile t g (Classical.choose h) e S else .stuck
theorem runWhile_mono {t : GT} {g : GS} : ∀ {n : Nat} {e : Ev} {S : Sto}, runWhile t g n e S ≠ .stuck → runWhile t g (n + 1) e S = runWhile t g n e S
  | 0, e, S, h => absurd rfl h
  | n + 1, e, S, h => by
    have e1 : ∀ m, runWhile t g (m + 1) e S = gE (t e S) e fun k S1 => if k = true then (match g e S1 with
      | .ok (.nx e2) S2 => runWhile t g m e2 S2
      | .ok (.ct e2) S2 => runWhile t g m e2 S2
      | .ok (.bk e2) S2 => .ok (.nx e2) S2
      | r => r) else .ok (.nx e) S1 := fun _ => rfl
    rw [e1 n] at h
    rw [e1 (n + 1), e1 n]
    cases q : t e S with
    | ok k S1 =>
      rw [q] at h
      simp only [gE_ok] at h ⊢
      cases k with
      | false => rfl
      | true =>
        rw [if_pos rfl] at h
        rw [if_pos rfl, if_pos rfl]
        cases q2 : g e S1 with
        | ok fl S2 =>
          rw [q2] at h
          cases fl with
          | nx e2 => exact runWhile_mono h
          | ct e2 => exact runWhile_mono h
          | bk e2 => rfl
          | rt d => rfl
          | xx e2 y => rfl
        | ex y S2 => rfl
        | stuck => rfl
    | ex y S1 => rfl
    | stuck => rfl
theorem runWhile_le {t : GT} {g : GS} {n : Nat} {e : Ev} {S : Sto} (h : runWhile t g n e S ≠ .stuck) : ∀ k, runWhile t g (n + k) e S = runWhile t g n e S
  | 0 => rfl
  | k + 1 => by
    have ih := runWhile_le h k
    have : runWhile t g (n + k) e S ≠ .stuck := by rw [ih]; exact h
    rw [← Nat.add_assoc, runWhile_mono this, ih]
theorem gWhile_of {t : GT} {g : GS} {n : Nat} {e : Ev} {S : Sto} {r : Res Fl} (h : runWhile t g n e S = r) (hr : r ≠ .stuck) : gWhile t g e S = r := by
  have hx : ∃ n, runWhile t g n e S ≠ .stuck := ⟨n, by rw [h]; exact hr⟩
  unfold gWhile
  rw [dif_pos hx]
  have hc := Classical.choose_spec hx
  rw [← h]
  have h1 := runWhile_le hc n
  have h2 := runWhile_le (by rw [h]; exact hr : runWhile t g n e S ≠ .stuck) (Classical.choose hx)
  rw [← h1, Nat.add_comm, h2]
theorem ds_while {c : Expr} {body : List Stmt} {tc : GT} {gb : GS} (hp : PassesOwn (model X.prog X.w) X.A X.env X.xe) (hc : DT X W c tc) (hb : DSs X W body gb) : DS X W (.While c body [] pos) (gWhile tc gb) := by
  refine ps_weak (ps_while hp hc hb) fun D σ H h => ?_
  obtain ⟨α, F, e, S, w, r, p⟩ := h
  have hx : ∃ n, runWhile tc gb n e S ≠ .stuck := by
    refine Classical.byContradiction fun hn => ?_
    unfold gWhile at p
    rw [dif_neg hn] at p
    exact p
  obtain ⟨n, hn⟩ := hx
  rw [gWhile_of rfl hn] at p
  refine ⟨fun m σ' H' => ∃ (α2 : List Addr) (F2 : Hp) (e2 : Ev) (S2 : Sto), Wd X.K α2 F2 S2 H' ∧ EvR X.K α2 F2 H' e2 σ' ∧ PostS X.K W (Own e2 σ') α2 F2 H' (runWhile tc gb m e2 S2) D, ⟨n, α, F, e, S, w, r, p⟩, ?_⟩
  rintro m σ' H' ⟨α2, F2, e2, S2, w2, r2, p2⟩
  cases m with
  | zero => exact p2.elim
  | succ m =>
    refine tG.mono ⟨α2, F2, e2, S2, w2, r2, gE_post r2 p2⟩ fun k H3 ⟨k', α3, F3, S3, x3, w3, r3, rk, p3, p30⟩ => ?_
    have rk' : k' = k := rk
    subst rk'
    cases k' with
    | false =>
      rw [if_neg (by decide)] at p3 ⊢
      exact p3.nx' w3 r3 fun a h => .inl h
    | true =>
      rw [if_pos rfl] at p3 ⊢
      refine ⟨fun σ' H' => ∃ (α2 : List Addr) (F2 : Hp) (e2 : Ev) (S2 : Sto), Wd X.K α2 F2 S2 H' ∧ EvR X.K α2 F2 H' e2 σ' ∧ PostS X.K W (Own e2 σ') α2 F2 H' (runWhile tc gb m e2 S2) D, fun σ4 H4 q => ⟨m, Nat.lt_succ_self _, q⟩, α3, F3, e2, S3, w3, r3, ?_⟩
      cases z4 : gb e2 S3 with
      | ok fl S4 =>
        rw [z4] at p3
        cases fl with
        | nx e4 => exact fun σ4 H4 α4 F4 x4 w4 r4 => ⟨α4, F4, e4, S4, w4, r4, PostS.trans x4 p3⟩
        | ct e4 => exact fun σ4 H4 α4 F4 x4 w4 r4 => ⟨α4, F4, e4, S4, w4, r4, PostS.trans x4 p3⟩
        | bk e4 => exact p3
        | rt v => exact p3
        | xx e4 y => exact p3
      | ex y S4 => rw [z4] at p3; exact p3
      | stuck => rw [z4] at p3; exact p3
end
end DL
set_option maxHeartbeats 2000000
namespace DL
open PySem PySem.Spec L2

/-! ### comprehensions -/
def wipeE (e : Ev) : List Nat → Ev
  | [] => e
  | v :: vs => (wipeE e vs).set v .no
theorem EvR.wipe1 {K : PySem.W.Frag} {α : List Addr} {F H : Hp} {e : Ev} {σ : L2.St} {v : Nat} (r : EvR K α F H e σ) : EvR K α F H (e.set v .no) (σ.set v none) ∧ ∀ a, Own (e.set v .no) (σ.set v none) a → Own e σ a := by
  have old : ∀ {j : Nat} {s : Slot}, s ≠ .no → (e.set v .no)[j]? = some s → v ≠ j ∧ e[j]? = some s := fun {j s} hs hj => by
    by_cases hij : v = j
    · subst hij
      have hi : v < e.length := by
        have := (List.getElem?_eq_some_iff.mp hj).1
        rwa [List.length_set] at this
      rw [List.getElem?_set_self hi] at hj
      cases hj
      exact absurd rfl hs
    · rw [List.getElem?_set_ne hij] at hj
      exact ⟨hij, hj⟩
  refine ⟨⟨by rw [List.length_set, List.length_set]; exact r.len, fun i d h => ?_, fun i ds h => ?_, fun i j ds es a hi hj si sj => ?_⟩, fun a ⟨i, ds, h1, h2⟩ => ?_⟩
  · obtain ⟨h1, h2⟩ := old (by simp) h
    rw [List.getElem?_set_ne h1]
    exact r.dat i d h2
  · obtain ⟨h1, h2⟩ := old (by simp) h
    rw [List.getElem?_set_ne h1]
    exact r.own i ds h2
  · obtain ⟨h1, h2⟩ := old (by simp) hi
    obtain ⟨h3, h4⟩ := old (by simp) hj
    rw [List.getElem?_set_ne h1] at si
    rw [List.getElem?_set_ne h3] at sj
    exact r.inj i j ds es a h2 h4 si sj
  · obtain ⟨h3, h4⟩ := old (by simp) h1
    rw [List.getElem?_set_ne h3] at h2
    exact ⟨i, ds, h4, h2⟩
theorem EvR.wipe {K : PySem.W.Frag} {α : List Addr} {F H : Hp} {e : Ev} {σ : L2.St} (r : EvR K α F H e σ) : ∀ vs : List Nat, EvR K α F H (wipeE e vs) (wipe σ vs)
  | [] => r
  | _ :: vs => (EvR.wipe r vs).wipe1.1
theorem wipe_at {σ : L2.St} {j : Nat} : ∀ {vs : List Nat}, j ∈ vs → j < σ.length → (L2.wipe σ vs)[j]? = some none
  | [], h, _ => by cases h
  | v :: vs, h, hl => by
    unfold L2.wipe
    by_cases hv : v = j
    · subst hv
      rw [List.getElem?_set_self (by rw [wipe_length]; exact hl)]
    · rw [List.getElem?_set_ne hv]
      exact wipe_at ((List.mem_cons.mp h).resolve_left fun z => hv z.symm) hl
theorem wipe_same {σ σ2 : L2.St} {vs : List Nat} (hl : σ2.length = σ.length) (h : ∀ j, j ∉ vs → σ2[j]? = (L2.wipe σ vs)[j]?) : L2.wipe σ2 vs = L2.wipe σ vs := by
  apply List.ext_getElem?
  intro j
  by_cases hj : j ∈ vs
  · by_cases hl2 : j < σ.length
    · rw [wipe_at hj (by omega), wipe_at hj hl2]
    · rw [List.getElem?_eq_none (by rw [wipe_length]; omega), List.getElem?_eq_none (by rw [wipe_length]; omega)]
  · rw [wipe_out hj, h j hj]
def gYes : GT := fun _ S => .ok true S
abbrev DTs (X : Cx) (W : WX) (ifs : List Expr) (g : GT) : Prop := PTs X ifs (tDT X.K W g)
theorem dts_nil {X : Cx} {W : WX} : DTs X W [] gYes := ⟨fun pins s σ H Q I h => pts_nil.run pins s σ H Q I (by
  obtain ⟨α, F, e, S, w, r, p⟩ := h
  exact p.ok w rfl)⟩
theorem dts_one {X : Cx} {W : WX} {c : Expr} {g : GT} (h : DT X W c g) : DTs X W [c] g := pts_one h
def W0 : WX := fun _ _ _ _ => False
def runLc (gt : D → Ev → Option Ev) (gc : GT) (ge : GE) (e : Ev) : List D → Sto → List D → Res (List D)
  | [], S, acc => .ok acc S
  | d :: ds, S, acc => match gt d e with
    | none => .stuck
    | some e2 => match gc e2 S with
      | .ok true S1 => (match ge e2 S1 with
        | .ok x S2 => if acc.length < line then runLc gt gc ge e ds S2 (acc ++ [x]) else .stuck
        | _ => .stuck)
      | .ok false S1 => runLc gt gc ge e ds S1 acc
      | _ => .stuck
def gLc (gi : GI) (gt : D → Ev → Option Ev) (gc : GT) (ge : GE) (vs : List Nat) : GE := fun e S => (gi e S).bind fun ds S1 => (runLc gt gc ge (wipeE e vs) ds S1 []).bind fun acc S2 => .ok (.lst acc) S2
section
variable {X : Cx} {W : WX}
theorem tLc_of {gi : GI} {ns vs : List Nat} {gt : D → Ev → Option Ev} {gc : GT} {ge : GE} (hns : ∀ j ∈ ns, j ∈ vs) (σ : L2.St) (H : Hp) (Q : VK) (h : tD X.K W (gLc gi gt gc ge vs) σ H Q) :
    tLc (tG X.K W (RI X.K) gi) (tDG X.K ns gt) (tDT X.K W0 gc) (tD X.K W0 ge) vs σ H Q := by
  refine (tG.at h).bind mono_true ⟨fun {α F H α' F' H' b c} x (h : ItR X.K α F b c) => fun α2 F2 S2 H2 hs hp w i => h α2 F2 S2 H2 (fun a o q => hs _ _ (x.sub _ _ q)) (fun j a q => hp _ _ (x.at _ _ q)) w i⟩ |>.mono fun J H1 ⟨ds, α1, F1, e, S1, w1, r1, ⟨_, rj⟩, p⟩ => ?_
  intro Dd hD
  dsimp only at p
  have hlen := r1.len
  obtain ⟨x0, w0, f0, a0⟩ := ext_own (vs := []) w1 hD
  refine ⟨fun i m H' => m = ds.length - i ∧ i ≤ ds.length ∧ ∃ (α2 : List Addr) (F2 : Hp) (S2 : Sto) (acc : List D) (accV : List V), Ex α1 F1 H1 α2 F2 H' ∧ Wd X.K α2 F2 S2 H' ∧ H' Dd = some (.lst accV) ∧ Reps X.K α2 F2 acc accV ∧ F2 Dd = none ∧ Dd ∉ α2 ∧
    Post X.K W (RD X.K) σ α1 F1 H1 ((runLc gt gc ge (wipeE e vs) (ds.drop i) S2 acc).bind fun acc S2 => .ok (.lst acc) S2) Q, ⟨ds.length, by simp, Nat.zero_le _, α1, F1, S1, [], [], x0, w0, upd_same, Reps.nil, f0, a0, p⟩, ?_⟩
  rintro i m H' ⟨rfl, hi, α2, F2, S2, acc, accV, x2, w2, hDd, ra, fD, aD, p2⟩
  have keepD : ∀ {α3 : List Addr} {F3 H3 : Hp}, Ex α2 F2 H' α3 F3 H3 → H3 Dd = some (.lst accV) ∧ F3 Dd = none ∧ Dd ∉ α3 := fun {α3 F3 H3} x => by
    refine ⟨x.kp _ _ hDd aD (fun z => z), ?_, fun hm => ?_⟩
    · cases q : F3 Dd with
      | none => rfl
      | some o =>
        rcases x.new _ _ q with z | z | z
        · rw [fD] at z; cases z
        · exact z.elim
        · rw [hDd] at z; cases z
    · obtain ⟨more, e1, f1⟩ := x.pre
      rw [e1] at hm
      rcases List.mem_append.mp hm with z | z
      · exact aD z
      · rw [f1 _ z] at hDd; cases hDd
  obtain ⟨j1, j2, j3⟩ := rj α2 F2 S2 H' x2.sub x2.at w2 i
  by_cases hlt : i < ds.length
  · refine .inr ⟨j1 hlt, fun H' => i + 1 ≤ ds.length ∧ ∃ (α2 : List Addr) (F2 : Hp) (S2 : Sto) (acc : List D) (accV : List V), Ex α1 F1 H1 α2 F2 H' ∧ Wd X.K α2 F2 S2 H' ∧ H' Dd = some (.lst accV) ∧ Reps X.K α2 F2 acc accV ∧ F2 Dd = none ∧ Dd ∉ α2 ∧
      Post X.K W (RD X.K) σ α1 F1 H1 ((runLc gt gc ge (wipeE e vs) (ds.drop (i + 1)) S2 acc).bind fun acc S2 => .ok (.lst acc) S2) Q, fun H3 q => ⟨ds.length - (i + 1), by omega, rfl, q⟩, fun y H3 hy => ?_⟩
    obtain ⟨d, F3, e1, x3, w3, rd⟩ := j3 y H3 hlt hy
    have hdrop : ds.drop i = d :: ds.drop (i + 1) := by
      obtain ⟨hq, e1'⟩ := List.getElem?_eq_some_iff.mp e1
      rw [← e1', ← List.drop_eq_getElem_cons hq]
    rw [hdrop] at p2
    have r3 : EvR X.K α2 F3 H3 e σ := r1.ex (x2.trans x3)
    refine ⟨α2, F3, wipeE e vs, S2, d, w3, r3.wipe vs, rd, ?_⟩
    unfold runLc at p2
    cases z : gt d (wipeE e vs) with
    | none => rw [z] at p2; exact p2.elim
    | some e3 =>
      rw [z] at p2
      intro σ3 r4 o3 l3 k3
      refine ⟨wipe_same (by rw [l3, wipe_length]) (fun j hj => k3 j fun h => hj (hns j h)), α2, F3, e3, S2, w3, r4, ?_⟩
      dsimp only at p2
      cases z4 : gc e3 S2 with
      | stuck => rw [z4] at p2; exact p2.elim
      | ex y S4 => rw [z4] at p2; exact p2.elim
      | ok k S4 =>
        rw [z4] at p2
        intro k' H4 α4 F4 x4 w4 rk
        have rk' : k = k' := rk
        subst rk'
        cases k with
        | false =>
          rw [if_neg (by decide)]
          obtain ⟨q1, q2, q3⟩ := keepD (x3.trans x4)
          exact ⟨hlt, α4, F4, S4, acc, accV, x2.trans (x3.trans x4), w4, q1, mono_A.up (x3.trans x4) ra, q2, q3, p2⟩
        | true =>
          rw [if_pos rfl]
          dsimp only at p2
          refine ⟨α4, F4, e3, S4, w4, r4.ex x4, ?_⟩
          cases z5 : ge e3 S4 with
          | stuck => rw [z5] at p2; exact p2.elim
          | ex y S5 => rw [z5] at p2; exact p2.elim
          | ok a S5 =>
            rw [z5] at p2
            intro v H5 α5 F5 x5 w5 rv
            have xx := x3.trans (x4.trans x5)
            obtain ⟨q1, q2, q3⟩ := keepD xx
            dsimp only at p2
            by_cases hz : acc.length < line
            · rw [if_pos hz] at p2
              refine ⟨accV, q1, by rw [line_eq, ← ra.length]; exact hz, hlt, α5, F5, S5, acc ++ [a], accV ++ [v], ?_, ?_, upd_same, (mono_A.up xx ra).append (Reps.one rv), q2, q3, p2⟩
              · have y := x2.trans xx
                refine ⟨y.pre, y.sub, fun b o h1 h2 h3 => ?_, y.new, y.own, fun b o h1 => ?_⟩
                · rw [upd_ne (ne_of_none h1 hD)]
                  exact y.kp b o h1 h2 h3
                · rw [upd_ne (ne_of_none h1 hD)]
                  exact y.dom b o h1
              · refine ⟨fun b o h => ?_, w5.ln, w5.nd, fun j b u h1 h2 => ?_⟩
                · rw [upd_ne (ne_of_none h q2)]
                  exact w5.sub b o h
                · obtain ⟨h3, h4⟩ := w5.ob j b u h1 h2
                  have hb : b ≠ Dd := fun q => q3 (by subst q; exact List.mem_of_getElem? h1)
                  refine ⟨h3, ?_⟩
                  cases u with
                  | lst fs => obtain ⟨us, z, q⟩ := h4; exact ⟨us, by rw [upd_ne hb]; exact z, q⟩
                  | ins C fs => obtain ⟨dx, us, z, q⟩ := h4; exact ⟨dx, us, by rw [upd_ne hb]; exact z, q⟩
            · rw [if_neg hz] at p2; exact p2.elim
  · have e : i = ds.length := by omega
    subst e
    rw [List.drop_length] at p2
    refine .inl ⟨j2 rfl, ?_⟩
    have hFF : ∀ b o, F2 b = some o → upd F2 Dd (.lst accV) b = some o := fun b o h => by rw [upd_ne (ne_of_none h fD)]; exact h
    refine p2 (.ref Dd) H' α2 (upd F2 Dd (.lst accV)) ⟨x2.pre, fun b o h => hFF _ _ (x2.sub b o h), x2.kp, fun b o h => ?_, fun _ h => h.elim, x2.dom⟩ ⟨fun b o h => ?_, w2.ln, w2.nd, fun j b u h1 h2 => ?_⟩ ⟨Dd, accV, rfl, upd_same, Reps.up hFF (fun _ _ h => h) ra⟩
    · by_cases hb : b = Dd
      · subst hb; exact .inr (.inr hD)
      · rw [upd_ne hb] at h; exact x2.new b o h
    · by_cases hb : b = Dd
      · subst hb; rw [upd_same] at h; cases h; exact hDd
      · rw [upd_ne hb] at h; exact w2.sub b o h
    · obtain ⟨h3, h4⟩ := w2.ob j b u h1 h2
      have hb : b ≠ Dd := fun q => aD (by subst q; exact List.mem_of_getElem? h1)
      refine ⟨by rw [upd_ne hb]; exact h3, ?_⟩
      cases u with
      | lst fs => obtain ⟨us, z, q⟩ := h4; exact ⟨us, z, Reps.up hFF (fun _ _ h => h) q⟩
      | ins C fs => obtain ⟨dx, us, z, q⟩ := h4; exact ⟨dx, us, z, FsR.up hFF (fun _ _ h => h) q⟩
theorem de_lc {vs : List Nat} {elt tg iter : Expr} {ifs : List Expr} {scope : Scope} {own : List (Str × Nat)} {pos : Pos} {gi : GI} {ns : List Nat} {gt : D → Ev → Option Ev} {gc : GT} {ge : GE} (hc : X.calm = true) (hN : X.N.Nodup) (hi : DI X W tg iter gi) (ok : BlkOk X.N X.env.scope scope own)
    (hg : ∀ (s : Shared) (H : Hp) (C : Addr) (cl : List (Str × Addr)) (fp : List Addr), DG (X.blk s H scope (compEnvC scope cl C X.env) fp) tg ns gt) (ht : ∀ (s : Shared) (H : Hp) (C : Addr) (cl : List (Str × Addr)) (fp : List Addr), DTs (X.blk s H scope (compEnvC scope cl C X.env) fp) W0 ifs gc)
    (he : ∀ (s : Shared) (H : Hp) (C : Addr) (cl : List (Str × Addr)) (fp : List Addr), DE (X.blk s H scope (compEnvC scope cl C X.env) fp) W0 elt ge) (hns : ∀ j ∈ ns, j ∈ own.map (·.2) := by decide) (hs : ∀ x, foldedSetIterable iter X.env x = pure x := by intro _; rfl) (hvs : own.map (·.2) = vs := by rfl) :
    DE X W (.ListComp elt [⟨tg, iter, ifs, 0⟩] scope pos) (gLc gi gt gc ge vs) := by
  subst hvs
  exact pe_weak (pe_lc (te := tD X.K W0 ge) (tt := tDT X.K W0 gc) (g := tDG X.K ns gt) hc hN hi ok (fun s H C cl fp => (hg s H C cl fp).run) ht he hs) (tLc_of hns)
theorem ds_setLc {vs : List Nat} {i : Nat} {y : Str} {py : Pos} {elt tg iter : Expr} {ifs : List Expr} {scope : Scope} {own : List (Str × Nat)} {pos spos : Pos} {gi : GI} {ns : List Nat} {gt : D → Ev → Option Ev} {gc : GT} {ge : GE} (hc : X.calm = true) (hN : X.N.Nodup) (hy : X.N[i]? = some y) (hyl : X.env.scope.names.lookup y = some .local)
    (hsw : swapsWith (.ListComp elt [⟨tg, iter, ifs, 0⟩] scope pos) (some (.Name y py)) spos.line X.env = pure true) (hi : DI X W tg iter gi) (ok : BlkOk X.N X.env.scope scope own)
    (hg : ∀ (s : Shared) (H : Hp) (C : Addr) (cl : List (Str × Addr)) (fp : List Addr), DG (X.blk s H scope (compEnvC scope cl C X.env) fp) tg ns gt) (ht : ∀ (s : Shared) (H : Hp) (C : Addr) (cl : List (Str × Addr)) (fp : List Addr), DTs (X.blk s H scope (compEnvC scope cl C X.env) fp) W0 ifs gc)
    (he : ∀ (s : Shared) (H : Hp) (C : Addr) (cl : List (Str × Addr)) (fp : List Addr), DE (X.blk s H scope (compEnvC scope cl C X.env) fp) W0 elt ge) (hns : ∀ j ∈ ns, j ∈ own.map (·.2) := by decide) (hs : ∀ x, foldedSetIterable iter X.env x = pure x := by intro _; rfl) (hvs : own.map (·.2) = vs := by rfl) :
    DS X W (.Assign [.Name y py] (.ListComp elt [⟨tg, iter, ifs, 0⟩] scope pos) spos) (gSet i (gDat (gLc gi gt gc ge vs))) := by
  subst hvs
  refine ps_weak (ps_setLc (te := tD X.K W0 ge) (tt := tDT X.K W0 gc) (g := tDG X.K ns gt) hc hN hy hyl hsw hi ok (fun s H C cl fp => (hg s H C cl fp).run) ht he hs) fun D σ H h => ?_
  obtain ⟨α, F, e, S, w, r, p⟩ := h
  refine tLc_of (W := W) hns σ H _ ⟨α, F, e, S, w, r, ?_⟩
  have p' : PostS X.K W (Own e σ) α F H (gE (gLc gi gt gc ge (own.map (·.2)) e S) e fun d S1 => .ok (.nx (e.set i (.dat d))) S1) D := by
    unfold gSet gDat at p
    cases q : gLc gi gt gc ge (own.map (·.2)) e S with
    | ok d S1 => rw [q] at p; exact p
    | ex y S1 => rw [q] at p; exact p
    | stuck => rw [q] at p; exact p
  have q := gE_post (R := RD X.K) r p'
  revert q
  cases z : gLc gi gt gc ge (own.map (·.2)) e S with
  | ok d S1 =>
    intro q c H1 α1 F1 x w1 rd
    obtain ⟨d', α2, F2, S2, x2, w2, r2, rd2, p1, p0⟩ := q c H1 α1 F1 x w1 rd
    have r3 := r2.set (i := i) (sl := .dat d') (v := c) rd2 (fun ds e => nomatch e)
    exact p1.nx' w2 r3 fun a h => by
      rcases own_set h with z | ⟨⟨ds, e1⟩, e2⟩
      · exact .inl z
      · cases e1
  | ex y S1 => exact fun q => q
  | stuck => exact fun q => q
end

/-! ### functions -/
def PostF (K : PySem.W.Frag) (α : List Addr) (F H : Hp) (r : Res D) (Q : VK) (E : XK) : Prop := match r with
  | .ok d S' => ∀ (v : V) (H' : Hp) (α' : List Addr) (F' : Hp), Ex α F H α' F' H' → Wd K α' F' S' H' → Rep K α' F' d v → Q v H'
  | .ex x S' => ∀ (dd : Addr) (fv : List (Str × V)) (H' : Hp) (α' : List Addr) (F' : Hp), Ex α F H α' F' H' → Wd K α' F' S' H' → H' dd = some (.xd fv) → FsR K α' F' x.fs fv → E (.ref x.cls) (some dd) H'
  | .stuck => False
abbrev Phi := List D → Sto → Res D
def spD (K : PySem.W.Frag) (ar : Nat) (φ : Phi) : Sp := fun vs H Q E => ∃ (α : List Addr) (F : Hp) (S : Sto) (ds : List D), ds.length = ar ∧ Wd K α F S H ∧ Reps K α F ds vs ∧ PostF K α F H (φ ds S) Q E
def envOf (n : Nat) (ds : List D) : Ev := ds.map .dat ++ List.replicate (n - ds.length) .no
def runFn (n : Nat) (g : GS) : Phi := fun ds S => match g (envOf n ds) S with
  | .ok (.rt d) S' => .ok d S'
  | .ok (.nx _) S' => .ok .non S'
  | .ok (.xx _ x) S' => .ex x S'
  | _ => .stuck
theorem evR_start {K : PySem.W.Frag} {α : List Addr} {F H : Hp} {N : List Str} {ds : List D} {vs : List V} (r : Reps K α F ds vs) : EvR K α F H (envOf N.length ds) (L2.start N vs) := by
  have hl := r.length
  have noO : ∀ (i : Nat) (fs : List D), (envOf N.length ds)[i]? ≠ some (.own fs) := fun i fs h => by
    unfold envOf at h
    by_cases hi : i < ds.length
    · rw [List.getElem?_append_left (by simpa using hi), List.getElem?_map] at h
      cases q : ds[i]? with
      | none => rw [q] at h; cases h
      | some d => rw [q] at h; cases h
    · rw [List.getElem?_append_right (by simpa using hi), List.getElem?_replicate] at h
      split at h <;> cases h
  refine ⟨by unfold L2.start envOf; simp [hl], fun i d h => ?_, fun i fs h => absurd h (noO i fs), fun i j fs gs a h => absurd h (noO i fs)⟩
  unfold envOf at h
  by_cases hi : i < ds.length
  · rw [List.getElem?_append_left (by simpa using hi), List.getElem?_map] at h
    cases q : ds[i]? with
    | none => rw [q] at h; cases h
    | some d' =>
      rw [q] at h
      cases h
      obtain ⟨v, h1, h2⟩ := r.get q
      refine ⟨v, ?_, h2⟩
      unfold L2.start
      rw [List.getElem?_append_left (by rw [List.length_map]; omega), List.getElem?_map, h1]
      rfl
  · rw [List.getElem?_append_right (by simpa using hi), List.getElem?_replicate] at h
    split at h <;> cases h
/-- what a def's body gives its promise -/
theorem body_D {K : PySem.W.Frag} {N : List Str} {ar : Nat} {g : GS} {vs : List V} {H : Hp} {Q : VK} {E : XK} (h : spD K ar (runFn N.length g) vs H Q E) :
    tDS K (fun c d _ H => E c d H) g { nx := fun _ H' => Q .non H', rt := Q } (L2.start N vs) H := by
  obtain ⟨α, F, S, ds, _, w, r, p⟩ := h
  refine ⟨α, F, envOf N.length ds, S, w, evR_start r, ?_⟩
  have noOwn : ∀ a, Own (envOf N.length ds) (L2.start N vs) a → NoOwn a := fun a ⟨i, fs, h1, _⟩ => by
    have rr : EvR K α F H (envOf N.length ds) (L2.start N vs) := evR_start r
    exfalso
    unfold envOf at h1
    by_cases hi : i < ds.length
    · rw [List.getElem?_append_left (by simpa using hi), List.getElem?_map] at h1
      cases q : ds[i]? with
      | none => rw [q] at h1; cases h1
      | some d => rw [q] at h1; cases h1
    · rw [List.getElem?_append_right (by simpa using hi), List.getElem?_replicate] at h1
      split at h1 <;> cases h1
  unfold runFn at p
  cases q : g (envOf N.length ds) S with
  | stuck => rw [q] at p; exact p
  | ex y S1 => rw [q] at p; exact p
  | ok fl S1 =>
    rw [q] at p
    cases fl with
    | nx e1 => exact fun σ' H' α' F' x w r => p .non H' α' F' (x.weakO noOwn).to0 w rfl
    | rt d => exact fun v H' α' F' x w r => p v H' α' F' (x.weakO noOwn).to0 w r
    | xx e1 y => exact fun σ' dd fv H' α' F' x w r h1 h2 => p dd fv H' α' F' (x.weakO noOwn).to0 w h1 h2
    | bk e1 => exact p.elim
    | ct e1 => exact p.elim
theorem spD_len {K : PySem.W.Frag} {ps : List Str} {φ : Phi} : ∀ vs H Q E, spD K ps.length φ vs H Q E → vs.length = ps.length := fun vs H Q E ⟨α, F, S, ds, hl, w, r, p⟩ => by rw [← r.length, hl]
section
variable {P : Program} {w : World} {K : PySem.W.Frag} {mg : Str → Option Value} {base : Heap} {x qual : Str} {params : Arguments} {body : List Stmt} {scope : Scope} {dvs : List V} {f : Addr} {fd : FuncData}
theorem fn_D {N ps : List Str} {k : Nat} {g : GS} (F : FunD K x qual params body scope dvs [] f fd) (S : FnScope N ps scope)
    (hb : ∀ (cdv : Value) (A : Around) (outer : List Env) (s : Shared) (H : Hp) (E : XK), Room k (A.deeper (PyProof.Rows.envOfC qual scope s.heap.objs.size f cdv)) →
      DSs (cxOf (L2.CX P w) P w K mg base N qual scope f cdv A outer s H E) (fun c d _ H => E c d H) body g) : FnOk P w K mg base (L2.CX P w) (k + 1) f fd ps (spD K ps.length (runFn N.length g)) :=
  F.ok S spD_len fun cdv A outer s H vs Q E hr h => ⟨_, hb cdv A outer s H E hr, body_D h⟩
/-- another meaning, where it tells -/
theorem fn_imp {ps : List Str} {k n : Nat} {φ ψ : Phi} (F : FnOk P w K mg base (L2.CX P w) k f fd ps (spD K n φ)) (h : ∀ ds S, ψ ds S ≠ .stuck → φ ds S = ψ ds S) : FnOk P w K mg base (L2.CX P w) k f fd ps (spD K n ψ) :=
  F.imp fun vs H Q E ⟨α, F, S, ds, hl, w, r, p⟩ => ⟨α, F, S, ds, hl, w, r, by
    cases q : ψ ds S with
    | stuck => rw [q] at p; exact p.elim
    | ok d S1 => rw [h ds S (by rw [q]; simp), q]; rw [q] at p; exact p
    | ex y S1 => rw [h ds S (by rw [q]; simp), q]; rw [q] at p; exact p⟩
end

/-! ### calls -/
/-- how a call binds: n positional values, keywords ks -/
theorem kbn0 {K : PySem.W.Frag} {x qual : Str} {params : Arguments} {body : List Stmt} {scope : Scope} {f : Addr} {fd : FuncData} {ps : List Str} (F : FunD K x qual params body scope [] [] f fd) (n : Nat) (ks : List Str) (g : List Value → List Value → List Value) (gV : List V → List V → List V)
    (hrel : ∀ {vs : List V} {us : List Value} {zs : List V} {ws : List Value}, Vals vs us → Vals zs ws → Vals (gV vs zs) (g us ws))
    (h : ∀ (kV doc pm : Value) (an : Option Addr) (cdv ct : Value) (us ws : List Value), us.length = n → ws.length = ks.length → bindArgs (PySem.W.fnOf x qual params body scope .none kV doc pm an cdv ct) ⟨us, ks.zip ws⟩ = pure (ps.zip (g us ws))) : KBn K fd ps n ks g gV := by
  obtain ⟨oc, od, dV, kV, doc, pm, an, cdv, ct, osl, rfl, lk, hcd, hD, hK⟩ := F.ex
  rcases hD with ⟨_, rfl⟩ | ⟨e, _⟩
  · exact ⟨fun s us ws _ l1 l2 => .of_eq (h kV doc pm an cdv ct us ws l1 l2), hrel⟩
  · exact absurd rfl e
/-- .. where the def has defaults: g puts positional values, all defaults, keywords in the parameters' order -/
theorem kbn1 {K : PySem.W.Frag} {x qual : Str} {params : Arguments} {body : List Stmt} {scope : Scope} {dvs : List V} {f : Addr} {fd : FuncData} {ps : List Str} (F : FunD K x qual params body scope dvs [] f fd) (hd : dvs ≠ []) (n : Nat) (ks : List Str) (g : List Value → List Value → List Value → List Value) (gV : List V → List V → List V → List V)
    (hrel : ∀ {vs ds zs : List V} {us its ws : List Value}, Vals vs us → Vals ds its → Vals zs ws → Vals (gV vs ds zs) (g us its ws))
    (h : ∀ (T : Addr) (kV doc pm : Value) (an : Option Addr) (cdv ct : Value) (us its ws : List Value), us.length = n → its.length = dvs.length → ws.length = ks.length →
      ∃ k, bindArgs (PySem.W.fnOf x qual params body scope (.ref T) kV doc pm an cdv ct) ⟨us, ks.zip ws⟩ = seqItems? (.ref T) >>= k ∧ k (some its.toArray) = pure (ps.zip (g us its ws))) : ∃ its : List Value, KBn K fd ps n ks (fun us ws => g us its ws) (fun vs zs => gV vs dvs zs) := by
  obtain ⟨oc, od, dV, kV, doc, pm, an, cdv, ct, osl, rfl, lk, hcd, hD, hK⟩ := F.ex
  rcases hD with ⟨e, _⟩ | ⟨_, T, o, its, m, rfl, lT, oT, rT⟩
  · exact absurd e hd
  · refine ⟨its, ⟨fun s us ws X l1 l2 => ?_, fun r1 r2 => hrel r1 rT r2⟩⟩
    obtain ⟨k, e1, e2⟩ := h T kV doc pm an cdv ct us its ws l1 rT.length.symm l2
    refine BindsTo.of_looks fun M => ?_
    rw [e1]
    exact looks_items X lT oT (.of_pure e2)
def tCallD (n m : Nat) (sp : Sp) (gV : List V → List V → List V) (E : L2.St → XK) (t tk : TA) : TE := fun σ H Q => t σ H fun vs H1 => tk σ H1 fun zs H2 => vs.length = n ∧ zs.length = m ∧ sp (gV vs zs) H2 Q (E σ)
section
variable {X : Cx} {CX : CXT} {k n : Nat} {f : Addr} {fd : FuncData} {ps ks : List Str} {sp : Sp} {E : L2.St → XK} {x : Str} {p pos : Pos} {e : Expr} {es : List Expr} {kws : List Keyword} {t tk : TA} {g : List Value → List Value → List Value} {gV : List V → List V → List V}
theorem run_fnD {pins : List (Addr × Obj)} {σ : L2.St} {H : Hp} {s : Shared} {Q : VK} {us ws : List Value} {vs zs : List V} (F : FnOk X.prog X.w X.K X.mg X.base CX k f fd ps sp) (hr : Room k X.A) (hb : KBn X.K fd ps n ks g gV) (hx : PassesAt CX X σ (E σ))
    (I : Inv X pins σ H s) (r : Vals vs us) (rz : Vals zs ws) (l1 : vs.length = n) (l2 : zs.length = ks.length) (h : sp (gV vs zs) H Q (E σ)) : wpAny (model X.prog X.w) X.A (call (.ref f) us (ks.zip ws)) (EP X pins σ Q) X.xe s := by
  have r2 := hb.rel r rz
  refine wpAny_call (codeAny_mono (F.run X.A X.stack s H ⟨us, ks.zip ws⟩ (g us ws) (gV vs zs) Q (E σ) hr I.env0 (hb.to s us ws I.kIn (r.length.symm.trans l1) (rz.length.symm.trans l2)) r2 h) fun r s' hq => ?_)
  cases r with
  | error e => exact hx pins H s e s' I hq
  | ok fl =>
    cases fl with
    | ret u => exact I.after hq
    | next => exact False.elim hq
    | brk => exact False.elim hq
    | cont => exact False.elim hq
/-- f(e, .., k = v, ..) -/
theorem pe_callD (F : FnOk X.prog X.w X.K X.mg X.base CX k f fd ps sp) (hr : Room k X.A) (hg : Gl X x) (hm : X.mg x = some (.ref f)) (hk : PySem.W.keepIn X.K (.ref f) = true) (hb : KBn X.K fd ps n ks g gV) (hx : ∀ σ, PassesAt CX X σ (E σ))
    (ha : PA X (e :: es) t) (hkw : PK X kws tk) (hall : (backToKw pos (keywordEach kws X.env)).all (·.1.isSome) = true := by rfl) (hks : (backToKw pos (keywordEach kws X.env)).filterMap (·.1) = ks := by rfl)
    (hdb : (x == ("__debug__" : Str)) = false := by decide) (he : starEach (e :: es) X.env = (false, eval e X.env) :: starEach es X.env := by rfl)
    (hpl : ((backTo pos (starEach (e :: es) X.env)).any (·.1) || (backToKw pos (keywordEach kws X.env)).any (·.1.isNone)) = false := by rfl) :
    PE X (.Call (.Name x p) (e :: es) kws pos) (tCallD n ks.length sp gV E t tk) := by
  refine ⟨fun pins s σ H Q I h => ?_⟩
  refine wpAny_Call_Name_kw (ld_glob I hg hm ?_ hdb)
  refine PySem.W.callWith_KW (h₀ := X.base) I.ok.mod.kin hk hall (thn (ha.run pos pins s σ H _ I h) fun us s1 ⟨vs, H1, I1, r, q⟩ => ?_) hpl he
  refine thn (hkw.run pos pins s1 σ H1 _ I1 q) fun ws s2 ⟨zs, H2, I2, rz, l1, l2, q2⟩ => ⟨I2.kIn, ?_⟩
  rw [hks]
  exact run_fnD F hr hb (hx σ) I2 r rz l1 l2 q2
/-- f(k = v, ..), f() -/
theorem pe_callD0 (F : FnOk X.prog X.w X.K X.mg X.base CX k f fd ps sp) (hr : Room k X.A) (hg : Gl X x) (hm : X.mg x = some (.ref f)) (hk : PySem.W.keepIn X.K (.ref f) = true) (hb : KBn X.K fd ps 0 ks g gV) (hx : ∀ σ, PassesAt CX X σ (E σ))
    (hkw : PK X kws tk) (hall : (backToKw pos (keywordEach kws X.env)).all (·.1.isSome) = true := by rfl) (hks : (backToKw pos (keywordEach kws X.env)).filterMap (·.1) = ks := by rfl)
    (hdb : (x == ("__debug__" : Str)) = false := by decide)
    (hpl : ((backTo pos (starEach [] X.env)).any (·.1) || (backToKw pos (keywordEach kws X.env)).any (·.1.isNone)) = false := by rfl) :
    PE X (.Call (.Name x p) [] kws pos) (tCallD 0 ks.length sp gV E tNil tk) := by
  refine ⟨fun pins s σ H Q I h => ?_⟩
  refine wpAny_Call_Name_kw (ld_glob I hg hm ?_ hdb)
  refine PySem.W.callWith_KW0 (h₀ := X.base) I.ok.mod.kin hk hall ?_ hpl
  refine thn (hkw.run pos pins s σ H _ I h) fun ws s2 ⟨zs, H2, I2, rz, l1, l2, q2⟩ => ⟨I2.kIn, ?_⟩
  rw [hks]
  exact run_fnD (us := []) (vs := []) F hr hb (hx σ) I2 .nil rz l1 l2 q2
end
abbrev DK (X : Cx) (W : WX) (kws : List Keyword) (g : GA) : Prop := PK X kws (tDA X.K W g)
theorem pk_weak {X : Cx} {e : List Keyword} {t t' : TA} (h : PK X e t) (w : ∀ σ H Q, t' σ H Q → t σ H Q) : PK X e t' := ⟨fun pos pins s σ H Q I q => h.run pos pins s σ H Q I (w σ H Q q)⟩
def gCall (φ : Phi) (n m : Nat) (gD : List D → List D → List D) (gs gk : GA) : GE := fun e S => (gs e S).bind fun ds S1 => (gk e S1).bind fun es S2 => if ds.length = n ∧ es.length = m then φ (gD ds es) S2 else .stuck
section
variable {X : Cx} {W : WX} {a : Expr} {es : List Expr} {ga : GE} {gs gk : GA} {pos p : Pos} {kws : List Keyword}
theorem dk_nil : DK X W [] gNil := pk_weak pk_nil fun σ H Q h => by
  obtain ⟨α, F, e, S, w, r, p⟩ := h
  exact p.ok w rfl
theorem dk_cons {nm : Option Str} {kpos : Pos} (ha : DE X W a ga) (hr : DK X W kws gk) : DK X W (⟨nm, a, kpos⟩ :: kws) (gCons ga gk) := by
  refine pk_weak (pk_cons ha hr) fun σ H Q h => ?_
  refine (tG.at h).bind mono_true mono_D |>.mono fun x H1 ⟨a, h1⟩ => ?_
  refine h1.bind (mono_true.and mono_D a x) mono_A |>.mono fun xs H2 ⟨as, α, F, e, S, w, re, ⟨⟨_, ra⟩, rs⟩, p⟩ => ?_
  exact p.ok w (Reps.cons ra rs)
/-- data in the parameters' order -/
def DRel (K : PySem.W.Frag) (gD : List D → List D → List D) (gV : List V → List V → List V) : Prop := ∀ (α : List Addr) (F : Hp) (ds es : List D) (vs zs : List V), Reps K α F ds vs → Reps K α F es zs → Reps K α F (gD ds es) (gV vs zs)
theorem post_call {φ : Phi} {ar : Nat} {α : List Addr} {F H : Hp} {S : Sto} {σ : L2.St} {ds : List D} {vs : List V} {Q : VK} (w : Wd X.K α F S H) (r : Reps X.K α F ds vs) (hl : ds.length = ar) (p : Post X.K W (RD X.K) σ α F H (φ ds S) Q) : spD X.K ar φ vs H Q (WE W σ) := by
  refine ⟨α, F, S, ds, hl, w, r, ?_⟩
  cases q : φ ds S with
  | stuck => rw [q] at p; exact p
  | ok d S1 => rw [q] at p; exact p
  | ex y S1 => rw [q] at p; exact p
theorem tCallD_of {φ : Phi} {n m ar : Nat} {gD : List D → List D → List D} {gV : List V → List V → List V} (hD : DRel X.K gD gV) (har : ∀ ds es : List D, ds.length = n → es.length = m → (gD ds es).length = ar) (σ : L2.St) (H : Hp) (Q : VK) (h : tD X.K W (gCall φ n m gD gs gk) σ H Q) :
    tCallD n m (spD X.K ar φ) gV (WE W) (tDA X.K W gs) (tDA X.K W gk) σ H Q := by
  refine (tG.at h).bind mono_true mono_A |>.mono fun xs H1 ⟨as, h1⟩ => ?_
  refine h1.bind (mono_true.and mono_A as xs) mono_A |>.mono fun ys H2 ⟨bs, α, F, e, S, w, re, ⟨⟨_, ra⟩, rb⟩, p⟩ => ?_
  dsimp only at p
  split at p
  · rename_i hl
    exact ⟨by rw [← ra.length]; exact hl.1, by rw [← rb.length]; exact hl.2, post_call w (hD α F as bs xs ys ra rb) (har as bs hl.1 hl.2) p⟩
  · exact p.elim
theorem de_call {k n m : Nat} {f : Addr} {fd : FuncData} {ps ks : List Str} {x : Str} {φ : Phi} {g : List Value → List Value → List Value} {gV : List V → List V → List V} {gD : List D → List D → List D} (tk : Takes X W) (F : FnOk X.prog X.w X.K X.mg X.base (L2.CX X.prog X.w) k f fd ps (spD X.K ps.length φ)) (hr : Room k X.A) (hg : Gl X x) (hm : X.mg x = some (.ref f)) (hk : PySem.W.keepIn X.K (.ref f) = true)
    (hb : KBn X.K fd ps n ks g gV) (hD : DRel X.K gD gV) (har : ∀ ds es : List D, ds.length = n → es.length = ks.length → (gD ds es).length = ps.length) (ha : DA X W (a :: es) gs) (hkw : DK X W kws gk)
    (hall : (backToKw pos (keywordEach kws X.env)).all (·.1.isSome) = true := by rfl) (hks : (backToKw pos (keywordEach kws X.env)).filterMap (·.1) = ks := by rfl)
    (hdb : (x == ("__debug__" : Str)) = false := by decide) (he : starEach (a :: es) X.env = (false, eval a X.env) :: starEach es X.env := by rfl)
    (hpl : ((backTo pos (starEach (a :: es) X.env)).any (·.1) || (backToKw pos (keywordEach kws X.env)).any (·.1.isNone)) = false := by rfl) (hm' : ks.length = m := by rfl) :
    DE X W (.Call (.Name x p) (a :: es) kws pos) (gCall φ n m gD gs gk) := by
  subst hm'
  exact pe_weak (pe_callD F hr hg hm hk hb (fun σ => passAt tk σ) ha hkw hall hks hdb he hpl) (tCallD_of hD har)
theorem de_call0 {k m : Nat} {f : Addr} {fd : FuncData} {ps ks : List Str} {x : Str} {φ : Phi} {g : List Value → List Value → List Value} {gV : List V → List V → List V} {gD : List D → List D → List D} (tk : Takes X W) (F : FnOk X.prog X.w X.K X.mg X.base (L2.CX X.prog X.w) k f fd ps (spD X.K ps.length φ)) (hr : Room k X.A) (hg : Gl X x) (hm : X.mg x = some (.ref f)) (hk : PySem.W.keepIn X.K (.ref f) = true)
    (hb : KBn X.K fd ps 0 ks g gV) (hD : DRel X.K gD gV) (har : ∀ ds es : List D, ds.length = 0 → es.length = ks.length → (gD ds es).length = ps.length) (hkw : DK X W kws gk)
    (hall : (backToKw pos (keywordEach kws X.env)).all (·.1.isSome) = true := by rfl) (hks : (backToKw pos (keywordEach kws X.env)).filterMap (·.1) = ks := by rfl)
    (hdb : (x == ("__debug__" : Str)) = false := by decide)
    (hpl : ((backTo pos (starEach [] X.env)).any (·.1) || (backToKw pos (keywordEach kws X.env)).any (·.1.isNone)) = false := by rfl) (hm' : ks.length = m := by rfl) :
    DE X W (.Call (.Name x p) [] kws pos) (gCall φ 0 m gD gNil gk) := by
  subst hm'
  exact pe_weak (pe_callD0 F hr hg hm hk hb (fun σ => passAt tk σ) hkw hall hks hdb hpl) fun σ H Q h => by
    have q := tCallD_of (gs := gNil) (n := 0) hD har σ H Q h
    obtain ⟨α, F, e, S, w, r, p⟩ := q
    exact p.ok w rfl
/-- f(*e) -/
def gStar (φ : Phi) (ar : Nat) (g : GE) : GE := fun e S => (g e S).bind fun d S1 => match d with
  | .tup ds => if ds.length = ar then φ ds S1 else .stuck
  | _ => .stuck
theorem de_star {k ar : Nat} {f : Addr} {fd : FuncData} {ps : List Str} {x : Str} {φ : Phi} {sp_ : Pos} (tk : Takes X W) (F : FnOk X.prog X.w X.K X.mg X.base (L2.CX X.prog X.w) k f fd ps (spD X.K ps.length φ)) (hr : Room k X.A) (hg : Gl X x) (hm : X.mg x = some (.ref f)) (hk : PySem.W.keepIn X.K (.ref f) = true)
    (hb : Binds X.K fd ps []) (ha : DE X W a ga) (hE : ∀ c d σ σ' H, W c d σ H → W c d σ' H) (hd : (x == ("__debug__" : Str)) = false := by decide) (hst : starEach [.Starred a sp_] X.env = [(true, eval a X.env)] := by rfl) (har : ps.length = ar := by rfl) : DE X W (.Call (.Name x p) [.Starred a sp_] [] pos) (gStar φ ar ga) := by
  subst har
  have FR := (F.raw hb .nil).imp (sp' := spD X.K ps.length φ) fun vs H Q E h => by rw [List.append_nil]; exact h
  refine pe_weak (StX.pe_callS1 (E := fun c d H => ∀ σ, W c d σ H) FR hr hk hg hm (passes_call tk fun c d σ H h => h σ) ha hd hst) fun σ H Q h => ?_
  refine (tG.at h).bind mono_true mono_D |>.mono fun y H1 ⟨d, α, F, e, S, w, re, ⟨_, rd⟩, p⟩ => ?_
  cases d with
  | tup ds =>
    obtain ⟨l, vs, rfl, h1, rs⟩ := rd
    dsimp only at p
    split at p
    · rename_i hl
      refine ⟨l, vs, rfl, .inl (SqT.up h1 w.sub), α, F, S, ds, hl, w, rs, ?_⟩
      cases q : φ ds S with
      | stuck => rw [q] at p; exact p
      | ok d S1 => rw [q] at p; exact p
      | ex y S1 => rw [q] at p; exact fun dd fv H' α' F' x w h1 h2 σ' => hE _ _ σ σ' _ (p dd fv H' α' F' x w h1 h2)
    · exact p.elim
  | _ => exact p.elim
end
end DL
set_option maxHeartbeats 2000000
namespace PySem
open Sem (wp)
open AutoSeq1 (wpAny_loadPart')
theorem meets_enumerate_newT (l : Addr) (items : Array Value) (n : Nat) (dct : Option Addr) (sl : Array (Option Value)) :
    Meets (Builtin.«enumerate.__new__» ⟨[.type "enumerate", .ref l], []⟩) (fun _ R s => s.heap.get? l = some { cls := .type "tuple", dict := dct, data := .seq items n, slots := sl } ∧
      R (.ok (.ret (.ref (s.heap.push { cls := .type "tuple_iterator", data := .fields #[.ref l, .int 0 0] }).objs.size)))
        { s with heap := (s.heap.push { cls := .type "tuple_iterator", data := .fields #[.ref l, .int 0 0] }).push { cls := .type "enumerate", data := .fields #[.none, .bool false, .ref s.heap.objs.size, rawInt 0, .none, .none] } }) :=
  .of_wp fun prog w A R s h => by
    obtain ⟨hp, g, d, tk, os⟩ := s; obtain ⟨hl, h⟩ := h
    have hsub := sub_enumerate
    have hL : Heap.IsTuple (Shared.heap ⟨hp, g, d, tk, os⟩) l items := ⟨_, hl, rfl, n, rfl⟩
    wp_walk using wpAny_loadPart' hl
    refine wpAny_stack_any fun st => wpAny_pure ?_
    split
    · rename_i c _ _ _ _ _
      cases (c == Value.type "enumerate")
      · wp_walk using wpAny_loadPart' hl, wpAny_pyIter_tuple hL
        exact ⟨_, rfl, h⟩
      · wp_walk using wpAny_loadPart' hl, wpAny_pyIter_tuple hL
        exact ⟨_, rfl, h⟩
    · wp_walk using wpAny_loadPart' hl, wpAny_pyIter_tuple hL
      exact ⟨_, rfl, h⟩
section
variable {prog : Program} {w : World} {A : Around} {E : Value → Shared → Prop} {s : Shared}
theorem call_enumerate_tuple {l : Addr} {items : Array Value} {Q : Value → Shared → Prop} (hL : s.heap.IsTuple l items)
    (h : ∀ h', IsEnum h' (s.heap.objs.size + 1) s.heap.objs.size 0 .none → h'.IsTupleIter s.heap.objs.size l 0 → h'.objs.size = s.heap.objs.size + 2 →
      (∀ b o, s.heap.get? b = some o → h'.get? b = some o) → Q (.ref (s.heap.objs.size + 1)) { s with heap := h' }) :
    wpAny (model prog w) A (call (.type "enumerate") [.ref l]) Q E s := by
  obtain ⟨⟨c, dct, dt, sl⟩, hl, hc, n, hd⟩ := hL
  replace hc : c = .type "tuple" := hc
  replace hd : dt = .seq items n := hd
  subst hc hd
  refine callType_new F.called_enumerate (by decide) (F.typeCall_enumerate_1 _) (F.newCall_enumerate_1 _) (fun obj => F.args_object_init_2 obj _) F.entry_enumerate_new
    (meets_enumerate_newT l items n dct sl) ⟨hl, ?_⟩
  have hz : (s.heap.push { cls := .type "tuple_iterator", data := .fields #[.ref l, .int 0 0] }).objs.size = s.heap.objs.size + 1 := Heap.size_push ..
  show _ ∧ _
  rw [hz]
  have he : IsEnum ((s.heap.push { cls := .type "tuple_iterator", data := .fields #[.ref l, .int 0 0] }).push
      { cls := .type "enumerate", data := .fields #[.none, .bool false, .ref s.heap.objs.size, rawInt 0, .none, .none] }) (s.heap.objs.size + 1) s.heap.objs.size 0 .none := by
    have := Heap.get?_push_size (s.heap.push { cls := .type "tuple_iterator", data := .fields #[.ref l, .int 0 0] })
      (o := { cls := .type "enumerate", data := .fields #[.none, .bool false, .ref s.heap.objs.size, rawInt 0, .none, .none] }) rfl
    rw [hz] at this; exact this
  refine ⟨⟨_, he, rfl⟩, h _ he ⟨_, Heap.get?_push_of_some _ (Heap.get?_push_size _ rfl), rfl, rfl⟩ (by rw [Heap.size_push, hz]) fun b o x => Heap.get?_push_of_some _ (Heap.get?_push_of_some _ x)⟩
end
end PySem
namespace DL
open PySem PySem.Spec L2
/-! ### enumerate of a tuple -/
def IteT (K : PySem.W.Frag) (a : Addr) : It :=
  ⟨fun i H => ∃ (xs : List V) (x : V), SqT K H a xs ∧ xs[i]? = some x, fun i H v H' => ∃ T x, v = .ref T ∧ H T = none ∧ H' = upd H T (.tup [.int (i : Nat), x]) ∧ ∀ xs, SqT K H a xs → xs[i]? = some x, fun i H => ∃ xs : List V, SqT K H a xs ∧ xs.length = i⟩
theorem turn_enumT {P : Program} {w : World} {K : PySem.W.Frag} {elts : List Expr} {kk : Nat} {tpos : Pos} (a e it : Addr) (hae : a ≠ e) (hai : a ≠ it) :
    Turn P w K (.Tuple elts kk tpos) (IteT K a) [e, it] e (fun i h => (∃ old, IsEnum h e it ((i : Nat) : Int) old) ∧ h.IsTupleIter it a i ∧ e ≠ it) where
  mem := by simp
  obj := fun i h st b hb => by
    obtain ⟨⟨old, he⟩, ⟨o, ho, hc, hd⟩, _⟩ := st
    have e' : b = e ∨ b = it := by simpa using hb
    rcases e' with z | z
    · rw [z]; exact ⟨_, he, fun v q => nomatch q⟩
    · rw [z]; exact ⟨o, ho, fun v q => by rw [hd] at q; cases q⟩
  keep := fun i h h' st k => let ⟨⟨old, he⟩, hi, hne⟩ := st; ⟨⟨old, k e (by simp) _ he⟩, hi.at fun o q => k it (by simp) o q, hne⟩
  item := by
    intro X hP hw hK hc i pins s σ H E I hf st hg
    subst hP hw hK
    obtain ⟨⟨old, he⟩, hit, hne⟩ := st
    obtain ⟨xs, x, hq, hx⟩ := hg
    obtain ⟨its, rv, p, hz⟩ := I.tuple hq
    obtain ⟨u, hu, ru⟩ := rv.get hx
    have hel : e < s.heap.objs.size := Heap.lt_size he
    have hil : it < s.heap.objs.size := by obtain ⟨_, q, _⟩ := hit; exact Heap.lt_size q
    have Dr := Draws.tuple (prog := X.prog) (w := X.w) (A := X.A.in1) (I.ok.hd hc) it a hai its.toArray
    have hsz0 : i < its.toArray.size := by
      have := (List.getElem?_eq_some_iff.mp hu).1
      simpa using this
    refine wpAny_pyNext_enum_itemD Dr he ⟨hit, show s.heap.IsTuple a its.toArray from p⟩ hsz0 hne (by simp [hne, Ne.symm hae]) fun x' h' tk hPx ho hst' hT hsz hk => ?_
    have hx' : x' = u := by
      have hPx : its.toArray[i]? = some x' := hPx
      rw [List.getElem?_toArray, hu] at hPx
      exact (Option.some.inj hPx).symm
    subst hx'
    obtain ⟨hit', _⟩ := hst'
    refine ⟨_, rfl, wpAny_letOwnedTupleGo_enum (s := { s with heap := h', toks := tk + 1 }) ho fun h'' he' sb => ?_⟩
    have hT2 : h''.get? s.heap.objs.size = some { cls := .type "tuple", data := .seq #[.int i tk, x'] } := (sb.2 _ (Nat.ne_of_gt hel)).trans hT
    have new : ObjOk X.prog X.w (upd H s.heap.objs.size (.tup [.int (i : Nat), x])) h'' s.heap.objs.size (.tup [.int (i : Nat), x]) :=
      ⟨by show 2 ≤ sizeLine; decide, [.int i tk, x'], .cons ⟨_, rfl⟩ (.cons ru .nil), ⟨_, hT2, rfl, _, rfl⟩⟩
    have I1 : Inv X pins σ (upd H s.heap.objs.size (.tup [.int (i : Nat), x])) { s with heap := h'', toks := tk + 1 } :=
      I.turnedNew (ch := [e, it]) (fun b ob hb q => (sb.2 b (fun z => hb (by simp [z]))).trans (hk b ob (fun z => hb (by simp [z])) (fun z => hb (by simp [z])) q)) hf (Nat.le_refl _) new
    refine ⟨.ref s.heap.objs.size, _, I1, rfl, ⟨_, x, rfl, I.hok.fresh (Nat.le_refl _), rfl, fun ys hy => by rw [I.tuple_inj hy hq]; exact hx⟩, ⟨⟨x', ?_⟩, hit'.at fun o q => (sb.2 it (Ne.symm hne)).trans q, hne⟩, fun b hb => ?_⟩
    · have e1 : ((i + 1 : Nat) : Int) = (i : Int) + 1 := by omega
      rw [e1]; exact he'
    · have hb' : b < s.heap.objs.size := by
        have e' : b = e ∨ b = it := by simpa using hb
        rcases e' with z | z
        · rw [z]; exact hel
        · rw [z]; exact hil
      rw [upd_ne (Nat.ne_of_lt hb')]
      exact (hf b hb).1
  done := by
    intro X hP hw hK hc i pins s σ H E I hf st hg
    subst hP hw hK
    obtain ⟨⟨old, he⟩, hit, hne⟩ := st
    obtain ⟨xs, hq, hx⟩ := hg
    obtain ⟨its, rv, p, hz⟩ := I.tuple hq
    obtain ⟨f0, f1, f2, f3, f4, f5⟩ := hf it (by simp)
    have hl := rv.length
    have Dr := Draws.tuple (prog := X.prog) (w := X.w) (A := X.A.in1) (I.ok.hd hc) it a hai its.toArray
    refine wpAny_pyNext_enum_endD Dr he ?_ fun h' eb => ⟨rfl, I.turned (t' := s.toks) (fun b o hb q => eb b o hb q) f0 f1 f3 f4 f5⟩
    have e1 : its.toArray.size = i := by simp; omega
    rw [e1]
    exact ⟨hit, show s.heap.IsTuple a its.toArray from p⟩
  self := fun A i s Q E st h => let ⟨⟨_, he⟩, _⟩ := st; wpAny_pyIter_enum he h
def iEnumA (K : PySem.W.Frag) (ta : TA) : TI := fun σ H R => ta σ H fun vs H1 => ∃ a xs, vs = [.ref a] ∧ ((SqL K H1 a xs ∧ R (Ite K a) H1) ∨ (SqT K H1 a xs ∧ R (IteT K a) H1))
theorem pi_enumA {X : Cx} {e : Expr} {ta : TA} {p pos tpos : Pos} {elts : List Expr} {kk : Nat} (hg : Gl X "enumerate") (hm : X.mg "enumerate" = none) (ha : PA X [e] ta) (hs : starEach [e] X.env = [(false, eval e X.env)] := by rfl) :
    PI X (.Tuple elts kk tpos) (.Call (.Name "enumerate" p) [e] [] pos) (iEnumA X.K ta) := by
  refine ⟨fun pins s σ H R I h => ?_⟩
  refine PyProof.Rows.Call_ (ld_blt I hg hm PyProof.Rows.boot_enumerate (PyProof.Rows.callWith_type1 (thn (ha.run pos pins s σ H _ I h) fun us s1 ⟨vs, H1, I1, r1, q1⟩ => ?_) hs rfl))
  obtain ⟨a, xs, ex, q1⟩ := q1
  subst ex
  cases r1 with
  | cons r rr =>
    cases rr
    cases r
    have fresh2 : ∀ b ∈ [s1.heap.objs.size + 1, s1.heap.objs.size], FpOk X pins H1 b := fun b hb => by
      have e' : b = s1.heap.objs.size + 1 ∨ b = s1.heap.objs.size := by simpa using hb
      have hle : s1.heap.objs.size ≤ b := by
        rcases e' with z | z
        · rw [z]; exact Nat.le_add_right _ _
        · rw [z]; exact Nat.le_refl _
      exact I1.fpOk hle (I1.hok.fresh hle)
    rcases q1 with ⟨hq, q⟩ | ⟨hq, q⟩
    · obtain ⟨its, rv, p', hz⟩ := I1.list hq
      refine call_enumerate_list p'.isList fun h' he hit hsz hk => wpAny_pyIter_enum he ?_
      have I2 : Inv X pins σ H1 { s1 with heap := h' } := I1.kept (t' := s1.toks) hk
      exact ⟨s1.heap.objs.size + 1, [s1.heap.objs.size + 1, s1.heap.objs.size], _, _, H1, rfl, I2, turn_enum a (s1.heap.objs.size + 1) s1.heap.objs.size, ⟨⟨.none, he⟩, hit, Nat.succ_ne_self _⟩, fresh2, q⟩
    · obtain ⟨its, rv, p', hz⟩ := I1.tuple hq
      have hlt : a < s1.heap.objs.size := p'.lt
      refine call_enumerate_tuple (show s1.heap.IsTuple a its.toArray from p') fun h' he hit hsz hk => wpAny_pyIter_enum he ?_
      have I2 : Inv X pins σ H1 { s1 with heap := h' } := I1.kept (t' := s1.toks) hk
      exact ⟨s1.heap.objs.size + 1, [s1.heap.objs.size + 1, s1.heap.objs.size], _, _, H1, rfl, I2, turn_enumT a (s1.heap.objs.size + 1) s1.heap.objs.size (Nat.ne_of_lt (Nat.lt_succ_of_lt hlt)) (Nat.ne_of_lt hlt), ⟨⟨.none, he⟩, hit, Nat.succ_ne_self _⟩, fresh2, q⟩
theorem itr_enumT {K : PySem.W.Frag} {α : List Addr} {F : Hp} {ds : List D} {vs : List V} {a : Addr} (h : TupR K F a vs) (r : Reps K α F ds vs) : ItR K α F (enumL 0 ds) (IteT K a) := by
  intro α2 F2 S2 H2 hs hp w i
  have hH : SqT K H2 a vs := SqT.up h fun b o q => w.sub _ _ (hs _ _ q)
  have hl := r.length
  rw [enumL_length]
  refine ⟨fun hi => ⟨vs, vs[i]'(by omega), hH, List.getElem?_eq_getElem (by omega)⟩, fun hi => ⟨vs, hH, by omega⟩, fun x H3 hi y => ?_⟩
  obtain ⟨T, z, e1, hT, e2, y⟩ := y
  subst e1 e2
  obtain ⟨d, e1, rd⟩ := r.get' (y vs hH)
  obtain ⟨F3, x3, w3, r3⟩ := new_pair (a := .int (i : Nat)) (b := d) w hT rfl (Rep.up hs hp rd)
  refine ⟨_, F3, enumL_get ds 0 i d e1, x3, w3, ?_⟩
  rw [Nat.zero_add]
  exact r3
section
variable {X : Cx} {W : WX} {a b : Expr} {ga gb : GE} {pos p tpos : Pos} {elts : List Expr} {kk : Nat}
def enumAD : List D → Option (List D)
  | [.lst ds] => some (enumL 0 ds)
  | [.tup ds] => some (enumL 0 ds)
  | _ => none
def gEnumA (gs : GA) : GI := fun e S => (gs e S).bind fun as S1 => lift (enumAD as) S1
theorem di_enumA {gs : GA} (hg : Gl X "enumerate") (hm : X.mg "enumerate" = none) (ha : DA X W [a] gs) (hs : starEach [a] X.env = [(false, eval a X.env)] := by rfl) :
    DI X W (.Tuple elts kk tpos) (.Call (.Name "enumerate" p) [a] [] pos) (gEnumA gs) := by
  refine pi_weak (pi_enumA hg hm ha hs) fun σ H R h => ?_
  refine (tG.at h).bind mono_true mono_A |>.mono fun xs H1 ⟨as, α, F, e, S, w, re, ⟨_, rd⟩, p⟩ => ?_
  dsimp only at p
  unfold enumAD at p
  split at p
  · obtain ⟨x, rfl, l, vs, rfl, h1, rs⟩ := reps1 rd
    exact ⟨l, vs, rfl, .inl ⟨.inl (.inl (w.sub _ _ h1)), p.ok w (itr_enum h1 rs)⟩⟩
  · obtain ⟨x, rfl, l, vs, rfl, h1, rs⟩ := reps1 rd
    exact ⟨l, vs, rfl, .inr ⟨SqT.up h1 w.sub, p.ok w (itr_enumT h1 rs)⟩⟩
  · exact p.elim
/-! ### names -/
theorem dv (i : Nat) {x : Str} (hN : X.N[i]? = some x := by rfl) (hv : Vis X.env.scope x := by first | exact Or.inl rfl | exact Or.inr (Or.inl rfl) | exact Or.inr (Or.inr rfl)) (hd : (x == ("__debug__" : Str)) = false := by decide)
    (hcd : (x == ("__classdict__" : Str)) = false := by decide) : DE X W (.Name x pos) (gVar i) := de_var hN hv hd hcd
/-- a built-in type as a value -/
theorem de_ty {x : Str} {n : String} (hg : Gl X x) (hm : X.mg x = none) (hv : bootBuiltins x = some (.type n)) (hn : x ≠ "__name__" := by decide) (hd : (x == ("__debug__" : Str)) = false := by decide) : DE X W (.Name x pos) (gC (.ty n)) :=
  de_c (pe_bltn (v := V.ty n) hg hm hv rfl hn hd) fun _ _ => rfl
def addI (_ : Sto) : D → D → Option D
  | .int i, .int j => some (.int (i + j))
  | _, _ => none
theorem opd_addI : OpD X.K (rI0 fun i j => V.int (i + j)) addI := opd_ints fun S a b d e => by
  unfold addI at e
  split at e
  · rename_i i j
    cases e
    exact ⟨i, j, rfl, rfl, fun _ _ H Q k => ⟨i, j, rfl, rfl, k _ fun _ _ => rfl⟩⟩
  · cases e
/-! ### a new list that may change, as a value -/
def gNewL (gs : GA) : GE := fun e S => (gs e S).bind fun as S1 => if as.length ≤ line then .ok (.ref S1.length) (S1 ++ [.lst as]) else .stuck
theorem sto_new {K : PySem.W.Frag} {α : List Addr} {F H : Hp} {S : Sto} {t : Addr} {as : List D} {vs : List V} (w : Wd K α F S H) (ht : H t = none) (ra : Reps K α F as vs) :
    Ex α F H (α ++ [t]) F (upd H t (.lst vs)) ∧ Wd K (α ++ [t]) F (S ++ [.lst as]) (upd H t (.lst vs)) ∧ Rep K (α ++ [t]) F (.ref S.length) (.ref t) := by
  obtain ⟨x, w', f', a'⟩ := ext_own (vs := vs) w ht
  have at' : ∀ (i : Nat) (b : Addr), α[i]? = some b → (α ++ [t])[i]? = some b := fun i b e => by rw [List.getElem?_append_left (List.getElem?_eq_some_iff.mp e).1]; exact e
  refine ⟨⟨⟨[t], rfl, fun b hb => by rw [List.mem_singleton.mp hb]; exact ht⟩, x.sub, x.kp, x.new, x.own, x.dom⟩, ⟨w'.sub, by simp [w'.ln], ?_, fun i b o h1 h2 => ?_⟩, t, ?_, rfl⟩
  · rw [List.nodup_append]
    exact ⟨w'.nd, by simp, fun b hb c hc => by rw [List.mem_singleton.mp hc]; intro e; exact a' (by rw [← e]; exact hb)⟩
  · by_cases hi : i < α.length
    · rw [List.getElem?_append_left hi] at h1
      rw [List.getElem?_append_left (by rw [← w'.ln]; exact hi)] at h2
      obtain ⟨h3, h4⟩ := w'.ob i b o h1 h2
      refine ⟨h3, ?_⟩
      cases o with
      | lst ds => obtain ⟨us, z, q⟩ := h4; exact ⟨us, z, Reps.up (fun _ _ h => h) at' q⟩
      | ins C fs => obtain ⟨dx, us, z, q⟩ := h4; exact ⟨dx, us, z, FsR.up (fun _ _ h => h) at' q⟩
    · rw [List.getElem?_append_right (by omega)] at h1
      have e0 : i - α.length = 0 := by
        have := (List.getElem?_eq_some_iff.mp h1).1
        simp at this
        omega
      rw [e0] at h1
      cases h1
      have e1 : i = S.length := by have := w.ln; omega
      subst e1
      rw [List.getElem?_append_right (Nat.le_refl _), Nat.sub_self] at h2
      cases h2
      exact ⟨f', vs, upd_same, Reps.up (fun _ _ h => h) at' ra⟩
  · rw [← w.ln, List.getElem?_append_right (Nat.le_refl _), Nat.sub_self]
    rfl
theorem de_newL {es : List Expr} {gs : GA} (h : DA X W es gs) : DE X W (.List es pos) (gNewL gs) := by
  refine pe_weak (pe_lst h) fun σ H Q h => ?_
  refine (tG.at h).bind mono_true mono_A |>.mono fun xs H1 ⟨as, α, F, e, S, w, re, ⟨_, ra⟩, p⟩ => ?_
  dsimp only at p
  by_cases hl : as.length ≤ line
  · rw [if_pos hl] at p
    refine ⟨by rw [line_eq, ← ra.length]; exact hl, fun t ht => ?_⟩
    obtain ⟨x', w', r'⟩ := sto_new w ht ra
    exact p _ _ _ _ x' w' r'
  · rw [if_neg hl] at p; exact p.elim
end
/-! ### the text's defs -/
/-- a def as it stands behind the top -/
def Fn (K : PySem.W.Frag) (mg : Str → Option Value) (x : Str) (st : Stmt) (dvs : List V) : Prop := ∃ (a : Addr) (fd : FuncData), FunD K x x (defArgs st) (defBody st) (defScope st) dvs [] a fd ∧ mg x = some (.ref a)
/-- .. and what it means -/
def Ok (P : Program) (w : World) (K : PySem.W.Frag) (mg : Str → Option Value) (base : Heap) (k : Nat) (x : Str) (st : Stmt) (dvs : List V) (ps : List Str) (φ : Phi) : Prop :=
  ∃ (a : Addr) (fd : FuncData), FunD K x x (defArgs st) (defBody st) (defScope st) dvs [] a fd ∧ mg x = some (.ref a) ∧ FnOk P w K mg base (L2.CX P w) k a fd ps (spD K ps.length φ)
theorem fn_stuck {P : Program} {w : World} {K : PySem.W.Frag} {mg : Str → Option Value} {base : Heap} {k : Nat} {f : Addr} {fd : FuncData} {ps : List Str} : FnOk P w K mg base (L2.CX P w) k f fd ps (spD K ps.length fun _ _ => .stuck) :=
  ⟨spD_len, fun A outer s H args us vs Q E hr he hb hv ⟨α, F, S, ds, hl, w, r, p⟩ => p.elim⟩
theorem vals_getD {us : List Value} {vs : List V} (r : Vals vs us) (i : Nat) : RelV (vs.getD i .non) (us.getD i .none) := by
  rw [List.getD_eq_getElem?_getD, List.getD_eq_getElem?_getD]
  cases e : vs[i]? with
  | none => rw [r.none_of e]; rfl
  | some v =>
    obtain ⟨u, h1, h2⟩ := r.get e
    rw [h1]
    exact h2
theorem reps_getD {K : PySem.W.Frag} {α : List Addr} {F : Hp} {ds : List D} {vs : List V} (r : Reps K α F ds vs) (i : Nat) : Rep K α F (ds.getD i .non) (vs.getD i .non) := by
  rw [List.getD_eq_getElem?_getD, List.getD_eq_getElem?_getD]
  cases e : ds[i]? with
  | none =>
    have e' : vs[i]? = none := by
      have := r.length
      rw [List.getElem?_eq_none_iff] at e ⊢
      omega
    rw [e']
    rfl
  | some v =>
    obtain ⟨u, h1, h2⟩ := r.get e
    rw [h1]
    exact h2
end DL
set_option maxHeartbeats 2000000
namespace DL
open PySem PySem.Spec L2
/-! ### ranges with ends of any size -/
theorem turn_big {P : Program} {w : World} {K : PySem.W.Frag} {tg : Expr} (it : Addr) (lo : Int) (n : Nat) : Turn P w K tg (Itr lo n) [it] it (fun i h => IsLongIter h it (lo + (i : Nat) * 1) ((n : Int) - (i : Nat)) 1) := by
  refine ⟨by simp, fun i h q b hb => ?_, fun i h h' q k => k it (by simp) _ q, ?_, ?_, fun _ _ _ _ _ q h => wpAny_pyIter_longiter q h⟩
  · rw [show b = it by simpa using hb]
    exact ⟨_, q, fun v z => by
      have z2 : Data.fields _ = Data.cell v := z
      cases z2⟩
  · rintro X rfl rfl rfl hc i pins s σ H E I hf q hg
    obtain ⟨f0, f1, f2, f3, f4, f5⟩ := hf it (by simp)
    refine (Walks.longrange (prog := X.prog) (w := X.w) (I.ok.hd hc) it lo 1 n).item i s _ _ hg q fun v h' tk hv q' kk => ?_
    obtain ⟨t, rfl⟩ := hv
    have J1 : Inv X pins σ H { s with heap := h', toks := tk } := I.turned (fun b o hb e => kk b o (by simpa using hb) e) f0 f1 f3 f4 f5
    exact ⟨_, rfl, go_of (s := { s with heap := h', toks := tk }) (n := "longrange_iterator") q' rfl rfl (by decide) ⟨.int (lo + i), H, J1, ⟨t, by rw [Int.mul_one]⟩, ⟨rfl, rfl⟩, q', fun b hb => (hf b hb).1⟩⟩
  · rintro X rfl rfl rfl hc i pins s σ H E I hf q hg
    obtain ⟨f0, f1, f2, f3, f4, f5⟩ := hf it (by simp)
    exact wpAny_pyNext_long_end (I.ok.hd hc) q (by have : n ≤ i := hg; omega) fun h' eb => ⟨rfl, I.turned (t' := s.toks) (fun b o hb e => eb b o hb e) f0 f1 f3 f4 f5⟩
theorem big_it {X : Cx} {tg : Expr} {pins : List (Addr × Obj)} {σ : L2.St} {H : Hp} {s : Shared} {R : It → Hp → Prop} {E : Value → Shared → Prop} {lo hi : Int} {t u v : Tok} {tk : Nat} (I : Inv X pins σ H s)
    (q : R (Itr lo (hi - lo).toNat) H) : wpAny (model X.prog X.w) X.A (pyIter (.ref s.heap.objs.size)) (PIE X pins σ tg R) E { s with heap := s.heap.push { cls := .type "range", data := .fields #[.int lo t, .int hi u, .int 1 v] }, toks := tk } := by
  have J1 : Inv X pins σ H { s with heap := s.heap.push { cls := .type "range", data := .fields #[.int lo t, .int hi u, .int 1 v] }, toks := tk } := I.kept fun b o e => Heap.get?_push_of_some _ e
  have e1 : lo + ((0 : Nat) : Int) * 1 = lo := by simp
  have e2 : (((hi - lo).toNat : Nat) : Int) - ((0 : Nat) : Int) = Builtin.Range.rangeSize lo hi 1 := by rw [rangeSize_one]; split <;> omega
  have fr : ∀ b ∈ [(s.heap.push { cls := .type "range", data := .fields #[.int lo t, .int hi u, .int 1 v] }).objs.size], FpOk X pins H b := fun b hb => by
    rw [List.mem_singleton.mp hb]
    exact J1.fpOk (Nat.le_refl _) (J1.hok.fresh (Nat.le_refl _))
  cases hs : Builtin.Range.small lo hi 1 with
  | true =>
    refine wpAny_pyIter_range (IsRange.new ..) hs ?_
    refine ⟨_, _, _, _, H, rfl, J1.kept (t' := tk) fun b o e => Heap.get?_push_of_some _ e, turn_range _ lo (hi - lo).toNat, ?_, fr, q⟩
    show IsRangeIter _ _ (lo + ((0 : Nat) : Int) * 1) ((((hi - lo).toNat : Nat) : Int) - ((0 : Nat) : Int)) 1
    rw [e1, e2]
    exact Heap.get?_push_size _ rfl
  | false =>
    refine wpAny_pyIter_longrange (IsRange.new ..) hs ?_
    refine ⟨_, _, _, _, H, rfl, J1.kept (t' := tk) fun b o e => Heap.get?_push_of_some _ e, turn_big _ lo (hi - lo).toNat, ?_, fr, q⟩
    show IsLongIter _ _ (lo + ((0 : Nat) : Int) * 1) ((((hi - lo).toNat : Nat) : Int) - ((0 : Nat) : Int)) 1
    rw [e1, e2]
    exact Heap.get?_push_size _ rfl
def iBig (ta : TA) : TI := fun σ H R => ta σ H fun vs H1 => ∃ i j : Int, vs = [.int i, .int j] ∧ R (Itr i (j - i).toNat) H1
theorem pi_big {X : Cx} {tg : Expr} {a b : Expr} {ta : TA} {p pos : Pos} (hg : Gl X "range") (hm : X.mg "range" = none) (ha : PA X [a, b] ta) (hs : starEach [a, b] X.env = [(false, eval a X.env), (false, eval b X.env)] := by rfl) (hs2 : starEach [b] X.env = [(false, eval b X.env)] := by rfl) :
    PI X tg (.Call (.Name "range" p) [a, b] [] pos) (iBig ta) := by
  refine ⟨fun pins s σ H R I h => PyProof.Rows.Call_ (ld_blt I hg hm PyProof.Rows.boot_range (PyProof.Rows.callWith_type1 (thn (ha.run pos pins s σ H _ I h) fun us s1 ⟨vs, H1, J1, r1, i, j, e, q⟩ => ?_) (by rw [hs, hs2]) (by rw [hs2]; rfl)))⟩
  subst e
  obtain _ | ⟨⟨t, rfl⟩, _ | ⟨⟨t', rfl⟩, _ | _⟩⟩ := r1
  exact call_range_2 (big_it J1 q)
section
variable {X : Cx} {W : WX} {tg a b : Expr} {p pos : Pos}
def bigD : List D → Option (List D)
  | [.int i, .int j] => some (rangeL i (j - i).toNat)
  | _ => none
def gRngB (gs : GA) : GI := fun e S => (gs e S).bind fun as S1 => lift (bigD as) S1
theorem di_rangeB {gs : GA} (hg : Gl X "range") (hm : X.mg "range" = none) (ha : DA X W [a, b] gs) (hs : starEach [a, b] X.env = [(false, eval a X.env), (false, eval b X.env)] := by rfl) (hs2 : starEach [b] X.env = [(false, eval b X.env)] := by rfl) :
    DI X W tg (.Call (.Name "range" p) [a, b] [] pos) (gRngB gs) := by
  refine pi_weak (pi_big hg hm ha hs hs2) fun σ H R h => ?_
  refine (tG.at h).bind mono_true mono_A |>.mono fun xs H1 ⟨as, α, F, e, S, w, re, ⟨_, rd⟩, p⟩ => ?_
  dsimp only at p
  unfold bigD at p
  split at p
  · obtain ⟨x, y, rfl, rx, ry⟩ := reps2 rd
    exact ⟨_, _, by rw [show x = _ from rx, show y = _ from ry], p.ok w (itr_range _ _)⟩
  · exact p.elim
end
end DL
set_option maxHeartbeats 4000000
namespace T79
open PySem PySem.Spec L2 DL
def top (i : Nat) : Stmt := PySem.Challenge.pw_fewleaps_k79_whole_how_many.main.body.getD i (.Pass ⟨0, 0, 0, 0⟩)
abbrev s_is_integer : Stmt := top 6
abbrev s_is_below : Stmt := top 7
abbrev s_need_number : Stmt := top 12
abbrev s_are_rising : Stmt := top 13
abbrev s_is_end : Stmt := top 14
abbrev s_is_lot : Stmt := top 15
abbrev s_need_lot : Stmt := top 16
abbrev s_counted : Stmt := top 19
abbrev s_parts_of : Stmt := top 20
abbrev s_many_in : Stmt := top 21
abbrev s_need_stretch : Stmt := top 22
abbrev s_how_many : Stmt := top 23
abbrev s_nth_rest : Stmt := top 24
abbrev s_nth_of : Stmt := top 25
abbrev s_need_index : Stmt := top 26
abbrev s_number_in : Stmt := top 27
abbrev s_place_in : Stmt := top 28
abbrev s_summed : Stmt := top 29
abbrev s_sum_in : Stmt := top 30
abbrev s__law_box : Stmt := top 32
abbrev s__law_take : Stmt := top 33
abbrev s__law_pick : Stmt := top 34
abbrev s__law_is : Stmt := top 35
abbrev s__law_int : Stmt := top 36
abbrev s__law_has : Stmt := top 37
abbrev s__law_drawn_lot : Stmt := top 38
abbrev s__law_other_form : Stmt := top 39
abbrev s__law_sides : Stmt := top 40
abbrev s__law_count : Stmt := top 41
abbrev s__law_sum : Stmt := top 42
abbrev s__law_wide_number_of : Stmt := top 43
abbrev s__law_stretch_right : Stmt := top 44
abbrev s__law_number_right : Stmt := top 45
abbrev s_law : Stmt := top 46
noncomputable def g_is_integer : GS :=
  (gRet (gAndV (gCB isiD (gCons (gVar 0) (gCons (gC (.ty "int")) gNil))) (gNotV (gCB isiD (gCons (gVar 0) (gCons (gC (.ty "bool")) gNil))))))
noncomputable def p_is_integer : Phi := runFn 1 g_is_integer
noncomputable def g_is_below : GS :=
  (gRet (gAndV (gCall p_is_integer 1 0 (fun ds es => [ds.getD 0 .non]) (gCons (gVar 0) gNil) gNil) (gChain leD ltD (gC (.int 0)) (gVar 0) (gVar 1))))
noncomputable def p_is_below : Phi := runFn 2 g_is_below
noncomputable def g_need_number : GS :=
  (gIfS (gOrT (gNotT (gTru (gCall p_is_integer 1 0 (fun ds es => [ds.getD 0 .non]) (gCons (gVar 0) gNil) gNil))) (gTest (gOp geD (gCB absD (gCons (gVar 0) gNil)) (gVar 2)))) gStuck gNext)
noncomputable def p_need_number : Phi := runFn 3 g_need_number
noncomputable def g_are_rising : GS :=
  (gSeq (gIfS (gNotT (gTru (gCB isiD (gCons (gVar 0) (gCons (gC (.ty "tuple")) gNil))))) (gRet (gC (.bl false))) gNext) (gSeq (gFor (gEnumA (gCons (gVar 0) gNil)) (gtTup 2 (gtsCons (gtName 3) (gtsCons (gtName 4) gtsNil))) (gIfS (gOrT (gNotT (gTru (gCall p_is_integer 1 0 (fun ds es => [ds.getD 0 .non]) (gCons (gVar 4) gNil) gNil))) (gOrT (gNotT (gTest (gChain leD ltD (gVar 1) (gVar 4) (gVar 2)))) (gAndT (gTest (gOp gtD (gVar 3) (gC (.int 0)))) (gTest (gOp geD (gOp ixD (gVar 0) (gOp subD (gVar 3) (gC (.int 1)))) (gVar 4)))))) (gRet (gC (.bl false))) gNext)) (gRet (gC (.bl true)))))
noncomputable def p_are_rising : Phi := runFn 5 g_are_rising
noncomputable def g_is_end : GS :=
  (gRet (gAndV (gCall p_is_integer 1 0 (fun ds es => [ds.getD 0 .non]) (gCons (gVar 0) gNil) gNil) (gOp leD (gCB absD (gCons (gVar 0) gNil)) (gC (.int 50000)))))
noncomputable def p_is_end : Phi := runFn 1 g_is_end
noncomputable def g_is_lot : GS :=
  (gSeq (gIfS (gOrT (gNotT (gTru (gCB isiD (gCons (gVar 0) (gCons (gC (.ty "tuple")) gNil))))) (gOrT (gTest (gOp neD (gCB lenD (gCons (gVar 0) gNil)) (gC (.int 6)))) (gOrT (gNotT (gTru (gCall p_is_integer 1 0 (fun ds es => [ds.getD 0 .non]) (gCons (gOp ixD (gVar 0) (gC (.int 0))) gNil) gNil))) (gNotT (gTest (gChain leD leD (gC (.int 1)) (gOp ixD (gVar 0) (gC (.int 0))) (gC (.int 720)))))))) (gRet (gC (.bl false))) gNext) (gSeq (gIfS (gOrT (gNotT (gTru (gCall p_are_rising 3 0 (fun ds es => [ds.getD 0 .non, ds.getD 1 .non, ds.getD 2 .non]) (gCons (gOp ixD (gVar 0) (gC (.int 1))) (gCons (gC (.int 0)) (gCons (gOp ixD (gVar 0) (gC (.int 0))) gNil))) gNil))) (gNotT (gTru (gCall p_are_rising 3 0 (fun ds es => [ds.getD 0 .non, ds.getD 1 .non, ds.getD 2 .non]) (gCons (gOp ixD (gVar 0) (gC (.int 5))) (gCons (gC (.int 0)) (gCons (gOp ixD (gVar 0) (gC (.int 0))) gNil))) gNil)))) (gRet (gC (.bl false))) gNext) (gRet (gAndV (gCall p_is_end 1 0 (fun ds es => [ds.getD 0 .non]) (gCons (gOp ixD (gVar 0) (gC (.int 2))) gNil) gNil) (gAndV (gCall p_is_end 1 0 (fun ds es => [ds.getD 0 .non]) (gCons (gOp ixD (gVar 0) (gC (.int 4))) gNil) gNil) (gAndV (gOp leD (gOp ixD (gVar 0) (gC (.int 2))) (gOp ixD (gVar 0) (gC (.int 4)))) (gCall p_are_rising 3 0 (fun ds es => [ds.getD 0 .non, ds.getD 1 .non, ds.getD 2 .non]) (gCons (gOp ixD (gVar 0) (gC (.int 3))) (gCons (gOp ixD (gVar 0) (gC (.int 2))) (gCons (gOp ixD (gVar 0) (gC (.int 4))) gNil))) gNil)))))))
noncomputable def p_is_lot : Phi := runFn 1 g_is_lot
noncomputable def g_need_lot : GS :=
  (gIfS (gNotT (gTru (gCall p_is_lot 1 0 (fun ds es => [ds.getD 0 .non]) (gCons (gVar 0) gNil) gNil))) gStuck gNext)
noncomputable def p_need_lot : Phi := runFn 2 g_need_lot
noncomputable def g_counted : GS :=
  (gSeq (gIfS (gTest (gOp gtD (gVar 2) (gVar 3))) (gRet (gC (.int 0))) gNext) (gRet (gCB sumD (gCons (gLc (gSeqI (gVar 0)) (gtName 4) gYes (gOp subD (gOp fdivD (gOp subD (gVar 3) (gVar 4)) (gVar 1)) (gOp fdivD (gOp subD (gOp subD (gVar 2) (gC (.int 1))) (gVar 4)) (gVar 1))) [4]) gNil))))
noncomputable def p_counted : Phi := runFn 5 g_counted
noncomputable def g_parts_of : GS :=
  (gSeq (gAsg (gtTup 6 (gtsCons (gtName 3) (gtsCons (gtName 4) (gtsCons (gtName 5) (gtsCons (gtName 6) (gtsCons (gtName 7) (gtsCons (gtName 8) gtsNil))))))) (gVar 0)) (gSeq (gSet 9 (gDat (gLst (gCons (gTup (gCons (gVar 4) (gCons (gVar 3) (gCons (gVar 1) (gCons (gCB minD (gCons (gVar 2) (gCons (gOp subD (gVar 5) (gC (.int 1))) gNil))) gNil))))) (gCons (gTup (gCons (gVar 8) (gCons (gVar 3) (gCons (gCB maxD (gCons (gVar 1) (gCons (gVar 7) gNil))) (gCons (gVar 2) gNil))))) gNil))))) (gRet (gTup (gCons (gVar 9) (gCons (gLc (gSeqI (gVar 6)) (gtName 10) (gTest (gChain leD leD (gVar 1) (gVar 10) (gVar 2))) (gVar 10) [10]) gNil))))))
noncomputable def p_parts_of : Phi := runFn 11 g_parts_of
noncomputable def g_many_in : GS :=
  (gSeq (gAsg (gtTup 2 (gtsCons (gtName 3) (gtsCons (gtName 4) gtsNil))) (gCall p_parts_of 3 0 (fun ds es => [ds.getD 0 .non, ds.getD 1 .non, ds.getD 2 .non]) (gCons (gVar 0) (gCons (gVar 1) (gCons (gVar 2) gNil))) gNil)) (gRet (gOp addD (gCB lenD (gCons (gVar 4) gNil)) (gCB sumD (gCons (gLc (gSeqI (gVar 3)) (gtName 5) gYes (gStar p_counted 4 (gVar 5)) [5]) gNil)))))
noncomputable def p_many_in : Phi := runFn 6 g_many_in
noncomputable def g_need_stretch : GS :=
  (gSeq (gDrop (gCall p_need_lot 1 0 (fun ds es => [ds.getD 0 .non, .int (-1)]) (gCons (gVar 0) gNil) gNil)) (gSeq (gDrop (gCall p_need_number 2 0 (fun ds es => [ds.getD 0 .non, ds.getD 1 .non, .int 10000000000000000000000000000000000000000]) (gCons (gVar 1) (gCons (gC (.int 0)) gNil)) gNil)) (gDrop (gCall p_need_number 2 0 (fun ds es => [ds.getD 0 .non, ds.getD 1 .non, .int 10000000000000000000000000000000000000000]) (gCons (gVar 2) (gCons (gC (.int 1)) gNil)) gNil))))
noncomputable def p_need_stretch : Phi := runFn 3 g_need_stretch
noncomputable def g_how_many : GS :=
  (gSeq (gDrop (gCall p_need_stretch 3 0 (fun ds es => [ds.getD 0 .non, ds.getD 1 .non, ds.getD 2 .non]) (gCons (gVar 0) (gCons (gVar 1) (gCons (gVar 2) gNil))) gNil)) (gRet (gCall p_many_in 3 0 (fun ds es => [ds.getD 0 .non, ds.getD 1 .non, ds.getD 2 .non]) (gCons (gVar 0) (gCons (gVar 1) (gCons (gVar 2) gNil))) gNil)))
noncomputable def p_how_many : Phi := runFn 3 g_how_many
noncomputable def g_nth_rest : GS :=
  (gSeq (gSet 4 (gDat (gCB sortedD (gCons (gLc (gSeqI (gVar 0)) (gtName 5) gYes (gOp modD (gOp subD (gVar 5) (gVar 2)) (gVar 1)) [5]) gNil)))) (gRet (gOp addD (gOp addD (gVar 2) (gOp mulD (gOp fdivD (gVar 3) (gCB lenD (gCons (gVar 4) gNil))) (gVar 1))) (gOp ixD (gVar 4) (gOp modD (gVar 3) (gCB lenD (gCons (gVar 4) gNil)))))))
noncomputable def p_nth_rest : Phi := runFn 6 g_nth_rest
noncomputable def g_nth_of : GS :=
  (gSeq (gAsg (gtTup 6 (gtsCons (gtName 3) (gtsCons (gtName 4) (gtsCons (gtName 5) (gtsCons (gtName 6) (gtsCons (gtName 7) (gtsCons (gtName 8) gtsNil))))))) (gVar 0)) (gSeq (gSet 9 (gDat (gCall p_counted 4 0 (fun ds es => [ds.getD 0 .non, ds.getD 1 .non, ds.getD 2 .non, ds.getD 3 .non]) (gCons (gVar 4) (gCons (gVar 3) (gCons (gVar 1) (gCons (gOp subD (gVar 5) (gC (.int 1))) gNil)))) gNil))) (gSeq (gIfS (gTest (gOp ltD (gVar 2) (gVar 9))) (gRet (gCall p_nth_rest 4 0 (fun ds es => [ds.getD 0 .non, ds.getD 1 .non, ds.getD 2 .non, ds.getD 3 .non]) (gCons (gVar 4) (gCons (gVar 3) (gCons (gVar 1) (gCons (gVar 2) gNil)))) gNil)) gNext) (gSeq (gAug 2 subD (gVar 9)) (gSeq (gSet 10 (gDat (gLc (gSeqI (gVar 6)) (gtName 11) (gTest (gOp geD (gVar 11) (gVar 1))) (gVar 11) [11]))) (gSeq (gIfS (gTest (gOp ltD (gVar 2) (gCB lenD (gCons (gVar 10) gNil)))) (gRet (gOp ixD (gVar 10) (gVar 2))) gNext) (gRet (gIf (gTru (gVar 8)) (gCall p_nth_rest 4 0 (fun ds es => [ds.getD 0 .non, ds.getD 1 .non, ds.getD 2 .non, ds.getD 3 .non]) (gCons (gVar 8) (gCons (gVar 3) (gCons (gCB maxD (gCons (gVar 1) (gCons (gVar 7) gNil))) (gCons (gOp subD (gVar 2) (gCB lenD (gCons (gVar 10) gNil))) gNil)))) gNil) (gC .non)))))))))
noncomputable def p_nth_of : Phi := runFn 12 g_nth_of
noncomputable def g_need_index : GS :=
  (gIfS (gNotT (gTru (gCall p_is_below 2 0 (fun ds es => [ds.getD 0 .non, ds.getD 1 .non]) (gCons (gVar 0) (gCons (gC (.int 100000000000000000000000000000000000000000)) gNil)) gNil))) gStuck gNext)
noncomputable def p_need_index : Phi := runFn 1 g_need_index
noncomputable def g_number_in : GS :=
  (gSeq (gDrop (gCall p_need_lot 1 0 (fun ds es => [ds.getD 0 .non, .int (-1)]) (gCons (gVar 0) gNil) gNil)) (gSeq (gDrop (gCall p_need_number 1 0 (fun ds es => [ds.getD 0 .non, .int (-1), .int 10000000000000000000000000000000000000000]) (gCons (gVar 1) gNil) gNil)) (gSeq (gDrop (gCall p_need_index 1 0 (fun ds es => [ds.getD 0 .non]) (gCons (gVar 2) gNil) gNil)) (gRet (gCall p_nth_of 3 0 (fun ds es => [ds.getD 0 .non, ds.getD 1 .non, ds.getD 2 .non]) (gCons (gVar 0) (gCons (gVar 1) (gCons (gVar 2) gNil))) gNil)))))
noncomputable def p_number_in : Phi := runFn 3 g_number_in
noncomputable def g_place_in : GS :=
  (gSeq (gDrop (gCall p_need_stretch 3 0 (fun ds es => [ds.getD 0 .non, ds.getD 1 .non, ds.getD 2 .non]) (gCons (gVar 0) (gCons (gVar 1) (gCons (gVar 2) gNil))) gNil)) (gRet (gCall p_many_in 3 0 (fun ds es => [ds.getD 0 .non, ds.getD 1 .non, ds.getD 2 .non]) (gCons (gVar 0) (gCons (gVar 1) (gCons (gOp subD (gVar 2) (gC (.int 1))) gNil))) gNil)))
noncomputable def p_place_in : Phi := runFn 3 g_place_in
noncomputable def g_summed : GS :=
  (gSeq (gSet 4 (gDat (gC (.int 0)))) (gSeq (gFor (gSeqI (gVar 0)) (gtName 5) (gSeq (gPar 6 7 (gDat (gOp addD (gVar 2) (gOp modD (gOp subD (gVar 5) (gVar 2)) (gVar 1)))) (gDat (gOp subD (gVar 3) (gOp modD (gOp subD (gVar 3) (gVar 5)) (gVar 1))))) (gIfS (gTest (gOp leD (gVar 6) (gVar 7))) (gAug 4 addI (gOp fdivD (gOp mulD (gOp addD (gVar 6) (gVar 7)) (gOp addD (gOp fdivD (gOp subD (gVar 7) (gVar 6)) (gVar 1)) (gC (.int 1)))) (gC (.int 2)))) gNext))) (gRet (gVar 4))))
noncomputable def p_summed : Phi := runFn 8 g_summed
noncomputable def g_sum_in : GS :=
  (gSeq (gDrop (gCall p_need_stretch 3 0 (fun ds es => [ds.getD 0 .non, ds.getD 1 .non, ds.getD 2 .non]) (gCons (gVar 0) (gCons (gVar 1) (gCons (gVar 2) gNil))) gNil)) (gSeq (gAsg (gtTup 2 (gtsCons (gtName 3) (gtsCons (gtName 4) gtsNil))) (gCall p_parts_of 3 0 (fun ds es => [ds.getD 0 .non, ds.getD 1 .non, ds.getD 2 .non]) (gCons (gVar 0) (gCons (gVar 1) (gCons (gVar 2) gNil))) gNil)) (gRet (gOp addD (gCB sumD (gCons (gVar 4) gNil)) (gCB sumD (gCons (gLc (gSeqI (gVar 3)) (gtName 5) gYes (gStar p_summed 4 (gVar 5)) [5]) gNil))))))
noncomputable def p_sum_in : Phi := runFn 6 g_sum_in
noncomputable def g__law_box : GS :=
  (gSeq (gPar 2 3 (gOwnL gNil) (gDat (gOp addD (gC (.int 60913)) (gOp mulD (gC (.int 4201)) (gVar 1))))) (gSeq (gFor (gEnumA (gCons (gSlice (gVar 0) gNoPart (gPart (gC (.int 63)))) gNil)) (gtTup 2 (gtsCons (gtName 4) (gtsCons (gtName 5) gtsNil))) (gSeq (gSet 6 (gDat (gOp addD (gOp mulD (gCB absD (gCons (gVar 5) gNil)) (gC (.int 2))) (gCB intD (gCons (gOp ltD (gVar 5) (gC (.int 0))) gNil))))) (gSeq (gIfS (gTest (gOp geD (gCB absD (gCons (gVar 5) gNil)) (gOp powD (gC (.int 10)) (gC (.int 18))))) (gApp 2 (gCB absD (gCons (gVar 5) gNil))) gNext) (gSet 3 (gDat (gOp addD (gOp modD (gCB intD (gCons (gOp addD (gOp addD (gOp mulD (gVar 3) (gC (.int 48271))) (gOp mulD (gOp modD (gCB intD (gCons (gVar 6) gNil)) (gC (.int 2147483629))) (gOp addD (gOp mulD (gC (.int 2)) (gVar 4)) (gC (.int 44927))))) (gC (.int 23))) gNil)) (gC (.int 2147483629))) (gC (.int 1)))))))) (gFrz 2 (gRet (gNewL (gCons (gVar 2) (gCons (gVar 3) gNil)))))))
noncomputable def p__law_box : Phi := runFn 7 g__law_box
noncomputable def g__law_take : GS :=
  (gSeq (gIfS (gTest (gOp neD (gOp ixD (gVar 0) (gC (.int 0))) (gLst gNil))) (gSeq (gSet 2 (gDat (gOp ixD (gOp ixD (gVar 0) (gC (.int 0))) (gC (.int 0))))) (gSeq (gSetSto (gVar 0) (gC (.int 0)) (gOp addD (gIf (gTest (gOp geD (gVar 2) (gVar 1))) (gLst (gCons (gOp fdivD (gVar 2) (gVar 1)) gNil)) (gLst gNil)) (gSlice (gOp ixD (gVar 0) (gC (.int 0))) (gPart (gC (.int 1))) gNoPart))) (gRet (gOp modD (gCB intD (gCons (gVar 2) gNil)) (gVar 1))))) gNext) (gSeq (gSetSto (gVar 0) (gC (.int 1)) (gOp modD (gCB intD (gCons (gOp mulD (gOp ixD (gVar 0) (gC (.int 1))) (gC (.int 48271))) gNil)) (gC (.int 2147483647)))) (gRet (gOp modD (gCB intD (gCons (gOp fdivD (gOp addD (gOp mulD (gOp ixD (gVar 0) (gC (.int 1))) (gC (.int 69621))) (gC (.int 7))) (gC (.int 1013))) gNil)) (gVar 1)))))
noncomputable def p__law_take : Phi := runFn 3 g__law_take
noncomputable def g__law_pick : GS :=
  (gRet (gOp ixD (gVar 1) (gCall p__law_take 2 0 (fun ds es => [ds.getD 0 .non, ds.getD 1 .non]) (gCons (gVar 0) (gCons (gCB lenD (gCons (gVar 1) gNil)) gNil)) gNil)))
noncomputable def p__law_pick : Phi := runFn 2 g__law_pick
noncomputable def g__law_is (self : Phi) : GS :=
  (gSeq (gIfS (gTru (gCB isiD (gCons (gVar 1) (gCons (gC (.ty "tuple")) gNil)))) (gSeq (gIfS (gOrT (gNotT (gTru (gCB isiD (gCons (gVar 0) (gCons (gC (.ty "tuple")) gNil))))) (gTest (gOp neD (gCB lenD (gCons (gVar 0) gNil)) (gCB lenD (gCons (gVar 1) gNil))))) (gRet (gC (.bl false))) gNext) (gRet (gOp eqD (gLc (gZip (gCons (gVar 0) (gCons (gVar 1) gNil))) (gtTup 2 (gtsCons (gtName 2) (gtsCons (gtName 3) gtsNil))) (gNotT (gTru (gCall self 2 0 (fun ds es => [ds.getD 0 .non, ds.getD 1 .non]) (gCons (gVar 2) (gCons (gVar 3) gNil)) gNil))) (gC (.int 1)) [2, 3]) (gLst gNil)))) gNext) (gSeq (gIfS (gOrT (gTest (gOp isD (gVar 1) (gC .non))) (gOrT (gTest (gOp isD (gVar 1) (gC (.bl true)))) (gTest (gOp isD (gVar 1) (gC (.bl false)))))) (gRet (gIf (gTest (gOp isD (gVar 1) (gC .non))) (gOp isD (gVar 0) (gC .non)) (gIf (gTest (gOp isD (gVar 1) (gC (.bl true)))) (gOp isD (gVar 0) (gC (.bl true))) (gOp isD (gVar 0) (gC (.bl false)))))) gNext) (gSeq (gIfS (gTru (gCB isiD (gCons (gVar 1) (gCons (gC (.ty "int")) gNil)))) (gRet (gAndV (gCB isiD (gCons (gVar 0) (gCons (gC (.ty "int")) gNil))) (gAndV (gNotV (gCB isiD (gCons (gVar 0) (gCons (gC (.ty "bool")) gNil)))) (gOp eqD (gVar 0) (gVar 1))))) gNext) (gRet (gAndV (gCB isiD (gCons (gVar 1) (gCons (gC (.ty "str")) gNil))) (gAndV (gCB isiD (gCons (gVar 0) (gCons (gC (.ty "str")) gNil))) (gOp eqD (gVar 0) (gVar 1))))))))
noncomputable def p__law_is : Nat → Phi
  | 0 => fun _ _ => .stuck
  | n + 1 => runFn 4 (g__law_is (p__law_is n))
noncomputable def g__law_int : GS :=
  (gRet (gAndV (gCB isiD (gCons (gVar 0) (gCons (gC (.ty "int")) gNil))) (gNotV (gCB isiD (gCons (gVar 0) (gCons (gC (.ty "bool")) gNil))))))
noncomputable def p__law_int : Phi := runFn 1 g__law_int
noncomputable def g__law_has : GS :=
  (gSeq (gIfS (gTest (gOp ltD (gVar 1) (gOp ixD (gVar 0) (gC (.int 2))))) (gRet (gOp inD (gOp modD (gVar 1) (gCB intD (gCons (gOp ixD (gVar 0) (gC (.int 0))) gNil))) (gOp ixD (gVar 0) (gC (.int 1))))) gNext) (gRet (gIf (gTest (gOp ltD (gVar 1) (gOp ixD (gVar 0) (gC (.int 4))))) (gOp inD (gVar 1) (gOp ixD (gVar 0) (gC (.int 3)))) (gOp inD (gOp modD (gVar 1) (gCB intD (gCons (gOp ixD (gVar 0) (gC (.int 0))) gNil))) (gOp ixD (gVar 0) (gC (.int 5)))))))
noncomputable def p__law_has : Phi := runFn 2 g__law_has
noncomputable def g__law_drawn_lot : GS :=
  (gSeq (gSet 2 (gDat (gCall p__law_pick 2 0 (fun ds es => [ds.getD 0 .non, ds.getD 1 .non]) (gCons (gVar 0) (gCons (gLst (gCons (gC (.int 1)) (gCons (gC (.int 1)) (gCons (gC (.int 2)) (gCons (gC (.int 2)) (gCons (gC (.int 3)) (gCons (gC (.int 4)) (gCons (gC (.int 5)) (gCons (gC (.int 6)) (gCons (gC (.int 6)) (gCons (gC (.int 8)) (gCons (gC (.int 9)) (gCons (gC (.int 10)) (gCons (gC (.int 12)) (gCons (gC (.int 15)) (gCons (gC (.int 16)) (gCons (gC (.int 25)) (gCons (gC (.int 30)) (gCons (gC (.int 35)) (gCons (gC (.int 49)) (gCons (gC (.int 60)) gNil))))))))))))))))))))) gNil)) gNil))) (gSeq (gSet 3 (gOwnL gNil)) (gSeq (gFor (gRng1 (gCons (gC (.int 2)) gNil)) (gtName 4) (gSeq (gSet 5 (gDat (gCall p__law_take 2 0 (fun ds es => [ds.getD 0 .non, ds.getD 1 .non]) (gCons (gVar 0) (gCons (gC (.int 5)) gNil)) gNil))) (gSeq (gSet 6 (gDat (gLc (gRng1 (gCons (gVar 2) gNil)) (gtName 11) (gTest (gOp eqD (gCall p__law_take 2 0 (fun ds es => [ds.getD 0 .non, ds.getD 1 .non]) (gCons (gVar 0) (gCons (gC (.int 2)) gNil)) gNil) (gC (.int 0)))) (gVar 11) [11]))) (gApp 3 (gCB tupleD (gCons (gIf (gTest (gOp gtD (gVar 5) (gC (.int 1)))) (gVar 6) (gIf (gTest (gOp eqD (gVar 5) (gC (.int 0)))) (gListRg (gVar 2)) (gLst gNil))) gNil)))))) (gSeq (gIfS (gTest (gOp eqD (gCall p__law_take 2 0 (fun ds es => [ds.getD 0 .non, ds.getD 1 .non]) (gCons (gVar 0) (gCons (gC (.int 3)) gNil)) gNil) (gC (.int 0)))) (gSetOwn 3 (gC (.int 1)) (gIxOwn 3 (gC (.int 0)))) gNext) (gSeq (gFrz 3 (gSet 7 (gDat (gOp subD (gCall p__law_take 2 0 (fun ds es => [ds.getD 0 .non, ds.getD 1 .non]) (gCons (gVar 0) (gCons (gOp addD (gOp mulD (gC (.int 2)) (gVar 1)) (gC (.int 1))) gNil)) gNil) (gVar 1))))) (gSeq (gSet 8 (gDat (gOp addD (gVar 7) (gCall p__law_take 2 0 (fun ds es => [ds.getD 0 .non, ds.getD 1 .non]) (gCons (gVar 0) (gCons (gCall p__law_pick 2 0 (fun ds es => [ds.getD 0 .non, ds.getD 1 .non]) (gCons (gVar 0) (gCons (gLst (gCons (gC (.int 1)) (gCons (gC (.int 4)) (gCons (gC (.int 12)) (gCons (gC (.int 30)) gNil))))) gNil)) gNil) gNil)) gNil)))) (gSeq (gSet 9 (gDat (gCall p__law_take 2 0 (fun ds es => [ds.getD 0 .non, ds.getD 1 .non]) (gCons (gVar 0) (gCons (gC (.int 4)) gNil)) gNil))) (gSeq (gSet 10 (gDat (gCB tupleD (gCons (gLc (gRngB (gCons (gVar 7) (gCons (gVar 8) gNil))) (gtName 12) (gTest (gOp leD (gCall p__law_take 2 0 (fun ds es => [ds.getD 0 .non, ds.getD 1 .non]) (gCons (gVar 0) (gCons (gC (.int 4)) gNil)) gNil) (gVar 9))) (gVar 12) [12]) gNil)))) (gRet (gTup (gCons (gVar 2) (gCons (gOp ixD (gVar 3) (gC (.int 0))) (gCons (gVar 7) (gCons (gVar 10) (gCons (gVar 8) (gCons (gOp ixD (gVar 3) (gC (.int 1))) gNil))))))))))))))))
noncomputable def p__law_drawn_lot : Phi := runFn 13 g__law_drawn_lot
noncomputable def g__law_other_form : GS :=
  (gSeq (gSet 2 (gDat (gOp mulD (gOp ixD (gVar 1) (gC (.int 0))) (gCall p__law_pick 2 0 (fun ds es => [ds.getD 0 .non, ds.getD 1 .non]) (gCons (gVar 0) (gCons (gIf (gTest (gOp ltD (gOp ixD (gVar 1) (gC (.int 0))) (gC (.int 200)))) (gLst (gCons (gC (.int 1)) (gCons (gC (.int 2)) (gCons (gC (.int 3)) gNil)))) (gLst (gCons (gC (.int 1)) gNil))) gNil)) gNil)))) (gSeq (gPar 3 4 (gDat (gOp subD (gOp ixD (gVar 1) (gC (.int 2))) (gCall p__law_take 2 0 (fun ds es => [ds.getD 0 .non, ds.getD 1 .non]) (gCons (gVar 0) (gCons (gC (.int 9)) gNil)) gNil))) (gDat (gOp addD (gOp ixD (gVar 1) (gC (.int 4))) (gCall p__law_take 2 0 (fun ds es => [ds.getD 0 .non, ds.getD 1 .non]) (gCons (gVar 0) (gCons (gC (.int 9)) gNil)) gNil)))) (gSeq (gSet 5 (gDat (gCB tupleD (gCons (gLc (gRng1 (gCons (gVar 2) gNil)) (gtName 7) (gTest (gOp inD (gOp modD (gCB intD (gCons (gVar 7) gNil)) (gOp ixD (gVar 1) (gC (.int 0)))) (gOp ixD (gVar 1) (gC (.int 1))))) (gVar 7) [7]) gNil)))) (gSeq (gSet 6 (gDat (gCB tupleD (gCons (gLc (gRng1 (gCons (gVar 2) gNil)) (gtName 7) (gTest (gOp inD (gOp modD (gCB intD (gCons (gVar 7) gNil)) (gOp ixD (gVar 1) (gC (.int 0)))) (gOp ixD (gVar 1) (gC (.int 5))))) (gVar 7) [7]) gNil)))) (gRet (gTup (gCons (gVar 2) (gCons (gVar 5) (gCons (gVar 3) (gCons (gCB tupleD (gCons (gLc (gRngB (gCons (gVar 3) (gCons (gVar 4) gNil))) (gtName 8) (gTru (gCall p__law_has 2 0 (fun ds es => [ds.getD 0 .non, ds.getD 1 .non]) (gCons (gVar 1) (gCons (gVar 8) gNil)) gNil)) (gVar 8) [8]) gNil)) (gCons (gVar 4) (gCons (gVar 6) gNil))))))))))))
noncomputable def p__law_other_form : Phi := runFn 9 g__law_other_form
noncomputable def g__law_sides : GS :=
  (gSeq (gSet 3 (gDat (gLst (gCons (gTup (gCons (gVar 1) (gCons (gCB minD (gCons (gVar 2) (gCons (gOp subD (gOp ixD (gVar 0) (gC (.int 2))) (gC (.int 1))) gNil))) (gCons (gOp ixD (gVar 0) (gC (.int 1))) gNil)))) (gCons (gTup (gCons (gCB maxD (gCons (gVar 1) (gCons (gOp ixD (gVar 0) (gC (.int 4))) gNil))) (gCons (gVar 2) (gCons (gOp ixD (gVar 0) (gC (.int 5))) gNil)))) gNil))))) (gRet (gTup (gCons (gVar 3) (gCons (gLc (gSeqI (gOp ixD (gVar 0) (gC (.int 3)))) (gtName 4) (gTest (gChain leD leD (gVar 1) (gVar 4) (gVar 2))) (gVar 4) [4]) gNil)))))
noncomputable def p__law_sides : Phi := runFn 5 g__law_sides
noncomputable def g__law_count : GS :=
  (gSeq (gAsg (gtTup 2 (gtsCons (gtName 3) (gtsCons (gtName 4) gtsNil))) (gCall p__law_sides 3 0 (fun ds es => [ds.getD 0 .non, ds.getD 1 .non, ds.getD 2 .non]) (gCons (gVar 0) (gCons (gVar 1) (gCons (gVar 2) gNil))) gNil)) (gSeq (gSet 5 (gDat (gCB lenD (gCons (gVar 4) gNil)))) (gSeq (gFor (gSeqI (gVar 3)) (gtTup 3 (gtsCons (gtName 6) (gtsCons (gtName 7) (gtsCons (gtName 8) gtsNil)))) (gIfS (gTest (gOp leD (gVar 6) (gVar 7))) (gSet 5 (gDat (gOp addD (gVar 5) (gCB sumD (gCons (gLc (gSeqI (gVar 8)) (gtName 9) gYes (gOp subD (gOp fdivD (gOp subD (gVar 7) (gVar 9)) (gOp ixD (gVar 0) (gC (.int 0)))) (gOp fdivD (gOp subD (gOp subD (gVar 6) (gC (.int 1))) (gVar 9)) (gOp ixD (gVar 0) (gC (.int 0))))) [9]) gNil))))) gNext)) (gRet (gVar 5)))))
noncomputable def p__law_count : Phi := runFn 10 g__law_count
noncomputable def g__law_sum : GS :=
  (gSeq (gAsg (gtTup 2 (gtsCons (gtName 3) (gtsCons (gtName 4) gtsNil))) (gCall p__law_sides 3 0 (fun ds es => [ds.getD 0 .non, ds.getD 1 .non, ds.getD 2 .non]) (gCons (gVar 0) (gCons (gVar 1) (gCons (gVar 2) gNil))) gNil)) (gSeq (gSet 5 (gDat (gCB sumD (gCons (gVar 4) gNil)))) (gSeq (gFor (gSeqI (gVar 3)) (gtTup 3 (gtsCons (gtName 6) (gtsCons (gtName 7) (gtsCons (gtName 8) gtsNil)))) (gFor (gSeqI (gVar 8)) (gtName 9) (gSeq (gSet 10 (gDat (gOp addD (gVar 6) (gOp modD (gCB intD (gCons (gOp subD (gVar 9) (gVar 6)) gNil)) (gOp ixD (gVar 0) (gC (.int 0))))))) (gSeq (gSet 11 (gDat (gIf (gTest (gOp leD (gVar 10) (gVar 7))) (gOp addD (gOp fdivD (gOp subD (gVar 7) (gVar 10)) (gOp ixD (gVar 0) (gC (.int 0)))) (gC (.int 1))) (gC (.int 0))))) (gSet 5 (gDat (gOp addD (gOp addD (gVar 5) (gOp mulD (gVar 11) (gVar 10))) (gOp mulD (gOp ixD (gVar 0) (gC (.int 0))) (gOp fdivD (gOp mulD (gVar 11) (gOp subD (gVar 11) (gC (.int 1)))) (gC (.int 2))))))))))) (gRet (gVar 5)))))
noncomputable def p__law_sum : Phi := runFn 12 g__law_sum
noncomputable def g__law_wide_number_of : GS :=
  (gSeq (gSet 1 (gDat (gCall p__law_take 2 0 (fun ds es => [ds.getD 0 .non, ds.getD 1 .non]) (gCons (gVar 0) (gCons (gC (.int 6)) gNil)) gNil))) (gSeq (gIfS (gTest (gOp ltD (gVar 1) (gC (.int 3)))) (gRet (gOp subD (gCall p__law_take 2 0 (fun ds es => [ds.getD 0 .non, ds.getD 1 .non]) (gCons (gVar 0) (gCons (gC (.int 200)) gNil)) gNil) (gC (.int 100)))) gNext) (gSeq (gIfS (gTest (gOp eqD (gVar 1) (gC (.int 3)))) (gRet (gOp subD (gCall p__law_take 2 0 (fun ds es => [ds.getD 0 .non, ds.getD 1 .non]) (gCons (gVar 0) (gCons (gC (.int 4000)) gNil)) gNil) (gC (.int 2000)))) gNext) (gSeq (gSet 2 (gDat (gCall p__law_pick 2 0 (fun ds es => [ds.getD 0 .non, ds.getD 1 .non]) (gCons (gVar 0) (gCons (gLst (gCons (gOp powD (gC (.int 10)) (gC (.int 6))) (gCons (gOp powD (gC (.int 10)) (gC (.int 18))) (gCons (gOp powD (gC (.int 10)) (gC (.int 39))) gNil)))) gNil)) gNil))) (gSeq (gSet 3 (gDat (gOp addD (gVar 2) (gCall p__law_take 2 0 (fun ds es => [ds.getD 0 .non, ds.getD 1 .non]) (gCons (gVar 0) (gCons (gOp powD (gC (.int 10)) (gC (.int 6))) gNil)) gNil)))) (gRet (gIf (gTest (gOp eqD (gCall p__law_take 2 0 (fun ds es => [ds.getD 0 .non, ds.getD 1 .non]) (gCons (gVar 0) (gCons (gC (.int 2)) gNil)) gNil) (gC (.int 0)))) (gVar 3) (gOp subD (gC (.int 0)) (gVar 3)))))))))
noncomputable def p__law_wide_number_of : Phi := runFn 4 g__law_wide_number_of
noncomputable def g__law_stretch_right : GS :=
  (gSeq (gPar 3 4 (gDat (gCall p__law_count 3 0 (fun ds es => [ds.getD 0 .non, ds.getD 1 .non, ds.getD 2 .non]) (gCons (gVar 0) (gCons (gVar 1) (gCons (gVar 2) gNil))) gNil)) (gDat (gCall p__law_sum 3 0 (fun ds es => [ds.getD 0 .non, ds.getD 1 .non, ds.getD 2 .non]) (gCons (gVar 0) (gCons (gVar 1) (gCons (gVar 2) gNil))) gNil))) (gSeq (gIfS (gTest (gOp ltD (gOp subD (gVar 2) (gVar 1)) (gC (.int 400)))) (gSeq (gSet 5 (gDat (gLc (gRngB (gCons (gVar 1) (gCons (gOp addD (gVar 2) (gC (.int 1))) gNil))) (gtName 6) (gTru (gCall p__law_has 2 0 (fun ds es => [ds.getD 0 .non, ds.getD 1 .non]) (gCons (gVar 0) (gCons (gVar 6) gNil)) gNil)) (gVar 6) [6]))) (gIfS (gTest (gOp neD (gTup (gCons (gCB lenD (gCons (gVar 5) gNil)) (gCons (gCB sumD (gCons (gVar 5) gNil)) gNil))) (gTup (gCons (gVar 3) (gCons (gVar 4) gNil))))) (gRet (gC (.bl false))) gNext)) gNext) (gSeq (gIfS (gNotT (gTru (gCall (p__law_is 8) 2 0 (fun ds es => [ds.getD 0 .non, ds.getD 1 .non]) (gCons (gTup (gCons (gCall p_how_many 3 0 (fun ds es => [ds.getD 0 .non, ds.getD 1 .non, ds.getD 2 .non]) (gCons (gVar 0) (gCons (gVar 1) (gCons (gVar 2) gNil))) gNil) (gCons (gCall p_sum_in 3 0 (fun ds es => [ds.getD 0 .non, ds.getD 1 .non, ds.getD 2 .non]) (gCons (gVar 0) (gCons (gVar 1) (gCons (gVar 2) gNil))) gNil) (gCons (gCall p_place_in 3 0 (fun ds es => [ds.getD 0 .non, ds.getD 1 .non, ds.getD 2 .non]) (gCons (gVar 0) (gCons (gVar 1) (gCons (gVar 2) gNil))) gNil) gNil)))) (gCons (gTup (gCons (gVar 3) (gCons (gVar 4) (gCons (gCall p__law_count 3 0 (fun ds es => [ds.getD 0 .non, ds.getD 1 .non, ds.getD 2 .non]) (gCons (gVar 0) (gCons (gVar 1) (gCons (gOp subD (gVar 2) (gC (.int 1))) gNil))) gNil) gNil)))) gNil)) gNil))) (gRet (gC (.bl false))) gNext) (gRet (gCall (p__law_is 8) 2 0 (fun ds es => [ds.getD 0 .non, ds.getD 1 .non]) (gCons (gTup (gCons (gCall p_how_many 0 3 (fun ds es => [es.getD 2 .non, es.getD 1 .non, es.getD 0 .non]) gNil (gCons (gVar 2) (gCons (gVar 1) (gCons (gVar 0) gNil)))) (gCons (gCall p_sum_in 0 3 (fun ds es => [es.getD 1 .non, es.getD 2 .non, es.getD 0 .non]) gNil (gCons (gVar 2) (gCons (gVar 0) (gCons (gVar 1) gNil)))) gNil))) (gCons (gTup (gCons (gVar 3) (gCons (gVar 4) gNil))) gNil)) gNil)))))
noncomputable def p__law_stretch_right : Phi := runFn 7 g__law_stretch_right
noncomputable def g__law_number_right : GS :=
  (gSeq (gSet 3 (gDat (gCall p_number_in 3 0 (fun ds es => [ds.getD 0 .non, ds.getD 1 .non, ds.getD 2 .non]) (gCons (gVar 0) (gCons (gVar 1) (gCons (gVar 2) gNil))) gNil))) (gSeq (gSet 4 (gDat (gOp addD (gOp addD (gCB max3D (gCons (gCB absD (gCons (gOp ixD (gVar 0) (gC (.int 2))) gNil)) (gCons (gCB absD (gCons (gOp ixD (gVar 0) (gC (.int 4))) gNil)) (gCons (gCB absD (gCons (gVar 1) gNil)) gNil)))) (gOp mulD (gOp ixD (gVar 0) (gC (.int 0))) (gOp addD (gVar 2) (gC (.int 2))))) (gC (.int 1))))) (gSeq (gIfS (gTest (gOp isD (gVar 3) (gC .non))) (gRet (gAndV (gOp eqD (gOp ixD (gVar 0) (gC (.int 5))) (gTup gNil)) (gOp leD (gCall p__law_count 3 0 (fun ds es => [ds.getD 0 .non, ds.getD 1 .non, ds.getD 2 .non]) (gCons (gVar 0) (gCons (gVar 1) (gCons (gOp addD (gCB maxD (gCons (gOp ixD (gVar 0) (gC (.int 4))) (gCons (gVar 1) gNil))) (gC (.int 1))) gNil))) gNil) (gVar 2)))) gNext) (gSeq (gIfS (gOrT (gNotT (gTru (gCall p__law_int 1 0 (fun ds es => [ds.getD 0 .non]) (gCons (gVar 3) gNil) gNil))) (gOrT (gTest (gOp ltD (gVar 3) (gVar 1))) (gOrT (gNotT (gTru (gCall p__law_has 2 0 (fun ds es => [ds.getD 0 .non, ds.getD 1 .non]) (gCons (gVar 0) (gCons (gVar 3) gNil)) gNil))) (gTest (gOp gtD (gVar 3) (gVar 4)))))) (gRet (gC (.bl false))) gNext) (gSeq (gIfS (gAndT (gTest (gOp ltD (gCB absD (gCons (gVar 3) gNil)) (gOp powD (gC (.int 10)) (gC (.int 40))))) (gNotT (gTru (gCall (p__law_is 8) 2 0 (fun ds es => [ds.getD 0 .non, ds.getD 1 .non]) (gCons (gCall p_place_in 3 0 (fun ds es => [ds.getD 0 .non, ds.getD 1 .non, ds.getD 2 .non]) (gCons (gVar 0) (gCons (gVar 1) (gCons (gVar 3) gNil))) gNil) (gCons (gVar 2) gNil)) gNil)))) (gRet (gC (.bl false))) gNext) (gRet (gAndV (gOp eqD (gCall p__law_count 3 0 (fun ds es => [ds.getD 0 .non, ds.getD 1 .non, ds.getD 2 .non]) (gCons (gVar 0) (gCons (gVar 1) (gCons (gOp subD (gVar 3) (gC (.int 1))) gNil))) gNil) (gVar 2)) (gCall (p__law_is 8) 2 0 (fun ds es => [ds.getD 0 .non, ds.getD 1 .non]) (gCons (gCall p_number_in 0 3 (fun ds es => [es.getD 2 .non, es.getD 1 .non, es.getD 0 .non]) gNil (gCons (gVar 2) (gCons (gVar 1) (gCons (gVar 0) gNil)))) (gCons (gVar 3) gNil)) gNil))))))))
noncomputable def p__law_number_right : Phi := runFn 5 g__law_number_right
noncomputable def g_law : GS :=
  (gSeq (gSet 1 (gDat (gCall p__law_box 2 0 (fun ds es => [ds.getD 0 .non, ds.getD 1 .non]) (gCons (gVar 0) (gCons (gC (.int 79)) gNil)) gNil))) (gSeq (gFor (gRng1 (gCons (gC (.int 8)) gNil)) (gtName 2) (gSeq (gSet 3 (gDat (gCall p__law_drawn_lot 2 0 (fun ds es => [ds.getD 0 .non, ds.getD 1 .non]) (gCons (gVar 1) (gCons (gCall p__law_pick 2 0 (fun ds es => [ds.getD 0 .non, ds.getD 1 .non]) (gCons (gVar 1) (gCons (gLst (gCons (gC (.int 3)) (gCons (gC (.int 20)) (gCons (gC (.int 400)) gNil)))) gNil)) gNil) gNil)) gNil))) (gSeq (gIfS (gTest (gOp eqD (gCall p__law_take 2 0 (fun ds es => [ds.getD 0 .non, ds.getD 1 .non]) (gCons (gVar 1) (gCons (gC (.int 3)) gNil)) gNil) (gC (.int 0)))) (gSet 3 (gDat (gCall p__law_other_form 2 0 (fun ds es => [ds.getD 0 .non, ds.getD 1 .non]) (gCons (gVar 1) (gCons (gVar 3) gNil)) gNil))) gNext) (gFor (gRng1 (gCons (gC (.int 4)) gNil)) (gtName 4) (gSeq (gSet 5 (gDat (gCall p__law_wide_number_of 1 0 (fun ds es => [ds.getD 0 .non]) (gCons (gVar 1) gNil) gNil))) (gSeq (gSet 6 (gDat (gCall p__law_pick 2 0 (fun ds es => [ds.getD 0 .non, ds.getD 1 .non]) (gCons (gVar 1) (gCons (gLst (gCons (gCall p__law_wide_number_of 1 0 (fun ds es => [ds.getD 0 .non]) (gCons (gVar 1) gNil) gNil) (gCons (gOp addD (gVar 5) (gCall p__law_take 2 0 (fun ds es => [ds.getD 0 .non, ds.getD 1 .non]) (gCons (gVar 1) (gCons (gC (.int 90)) gNil)) gNil)) (gCons (gOp subD (gVar 5) (gC (.int 1))) (gCons (gVar 5) gNil))))) gNil)) gNil))) (gSeq (gIfS (gNotT (gTru (gCall p__law_stretch_right 3 0 (fun ds es => [ds.getD 0 .non, ds.getD 1 .non, ds.getD 2 .non]) (gCons (gVar 3) (gCons (gVar 5) (gCons (gVar 6) gNil))) gNil))) (gRet (gC (.bl false))) gNext) (gSeq (gSet 7 (gDat (gCall p__law_wide_number_of 1 0 (fun ds es => [ds.getD 0 .non]) (gCons (gVar 1) gNil) gNil))) (gSeq (gIfS (gAndT (gTest (gChain leD ltD (gVar 5) (gVar 7) (gVar 6))) (gTest (gOp neD (gCall p_how_many 3 0 (fun ds es => [ds.getD 0 .non, ds.getD 1 .non, ds.getD 2 .non]) (gCons (gVar 3) (gCons (gVar 5) (gCons (gVar 6) gNil))) gNil) (gOp addD (gCall p_how_many 3 0 (fun ds es => [ds.getD 0 .non, ds.getD 1 .non, ds.getD 2 .non]) (gCons (gVar 3) (gCons (gVar 5) (gCons (gVar 7) gNil))) gNil) (gCall p_how_many 3 0 (fun ds es => [ds.getD 0 .non, ds.getD 1 .non, ds.getD 2 .non]) (gCons (gVar 3) (gCons (gOp addD (gVar 7) (gC (.int 1))) (gCons (gVar 6) gNil))) gNil))))) (gRet (gC (.bl false))) gNext) (gSeq (gIfS (gAndT (gTest (gOp gtD (gVar 5) (gVar 6))) (gNotT (gTru (gCall (p__law_is 8) 2 0 (fun ds es => [ds.getD 0 .non, ds.getD 1 .non]) (gCons (gTup (gCons (gCall p_how_many 3 0 (fun ds es => [ds.getD 0 .non, ds.getD 1 .non, ds.getD 2 .non]) (gCons (gVar 3) (gCons (gVar 5) (gCons (gVar 6) gNil))) gNil) (gCons (gCall p_sum_in 3 0 (fun ds es => [ds.getD 0 .non, ds.getD 1 .non, ds.getD 2 .non]) (gCons (gVar 3) (gCons (gVar 5) (gCons (gVar 6) gNil))) gNil) gNil))) (gCons (gTup (gCons (gC (.int 0)) (gCons (gC (.int 0)) gNil))) gNil)) gNil)))) (gRet (gC (.bl false))) gNext) (gFor (gSeqI (gTup (gCons (gC (.int 0)) (gCons (gCall p__law_take 2 0 (fun ds es => [ds.getD 0 .non, ds.getD 1 .non]) (gCons (gVar 1) (gCons (gC (.int 60)) gNil)) gNil) (gCons (gOp addD (gOp powD (gC (.int 10)) (gC (.int 18))) (gCall p__law_take 2 0 (fun ds es => [ds.getD 0 .non, ds.getD 1 .non]) (gCons (gVar 1) (gCons (gOp powD (gC (.int 10)) (gC (.int 9))) gNil)) gNil)) (gCons (gOp subD (gOp subD (gOp powD (gC (.int 10)) (gC (.int 41))) (gC (.int 1))) (gCall p__law_take 2 0 (fun ds es => [ds.getD 0 .non, ds.getD 1 .non]) (gCons (gVar 1) (gCons (gC (.int 99)) gNil)) gNil)) gNil)))))) (gtName 8) (gIfS (gNotT (gTru (gCall p__law_number_right 3 0 (fun ds es => [ds.getD 0 .non, ds.getD 1 .non, ds.getD 2 .non]) (gCons (gVar 3) (gCons (gVar 5) (gCons (gVar 8) gNil))) gNil))) (gRet (gC (.bl false))) gNext)))))))))))) (gSeq (gSet 9 (gDat (gTup (gCons (gC (.int 6)) (gCons (gTup (gCons (gC (.int 0)) (gCons (gC (.int 2)) (gCons (gC (.int 5)) gNil)))) (gCons (gC (.int 1)) (gCons (gTup gNil) (gCons (gC (.int 1)) (gCons (gTup (gCons (gC (.int 2)) (gCons (gC (.int 5)) gNil))) gNil))))))))) (gRet (gCall (p__law_is 8) 2 0 (fun ds es => [ds.getD 0 .non, ds.getD 1 .non]) (gCons (gTup (gCons (gCall p_how_many 3 0 (fun ds es => [ds.getD 0 .non, ds.getD 1 .non, ds.getD 2 .non]) (gCons (gVar 9) (gCons (gUn negD (gC (.int 6))) (gCons (gC (.int 6)) gNil))) gNil) (gCons (gCall p_number_in 3 0 (fun ds es => [ds.getD 0 .non, ds.getD 1 .non, ds.getD 2 .non]) (gCons (gVar 9) (gCons (gUn negD (gC (.int 3))) (gCons (gC (.int 2)) gNil))) gNil) (gCons (gCall p_place_in 3 0 (fun ds es => [ds.getD 0 .non, ds.getD 1 .non, ds.getD 2 .non]) (gCons (gVar 9) (gCons (gUn negD (gC (.int 6))) (gCons (gC (.int 2)) gNil))) gNil) (gCons (gCall p_sum_in 3 0 (fun ds es => [ds.getD 0 .non, ds.getD 1 .non, ds.getD 2 .non]) (gCons (gVar 9) (gCons (gUn negD (gC (.int 6))) (gCons (gC (.int 6)) gNil))) gNil) gNil))))) (gCons (gTup (gCons (gC (.int 6)) (gCons (gC (.int 2)) (gCons (gC (.int 4)) (gCons (gUn negD (gC (.int 4))) gNil))))) gNil)) gNil)))))
noncomputable def p_law : Phi := runFn 10 g_law
structure Txt (K : PySem.W.Frag) (mg : Str → Option Value) : Prop where
  f_is_integer : Fn K mg (Str.ofString "is_integer") s_is_integer []
  f_is_below : Fn K mg (Str.ofString "is_below") s_is_below []
  f_need_number : Fn K mg (Str.ofString "need_number") s_need_number [V.int (-1), V.int 10000000000000000000000000000000000000000]
  f_are_rising : Fn K mg (Str.ofString "are_rising") s_are_rising []
  f_is_end : Fn K mg (Str.ofString "is_end") s_is_end []
  f_is_lot : Fn K mg (Str.ofString "is_lot") s_is_lot []
  f_need_lot : Fn K mg (Str.ofString "need_lot") s_need_lot [V.int (-1)]
  f_counted : Fn K mg (Str.ofString "counted") s_counted []
  f_parts_of : Fn K mg (Str.ofString "parts_of") s_parts_of []
  f_many_in : Fn K mg (Str.ofString "many_in") s_many_in []
  f_need_stretch : Fn K mg (Str.ofString "need_stretch") s_need_stretch []
  f_how_many : Fn K mg (Str.ofString "how_many") s_how_many []
  f_nth_rest : Fn K mg (Str.ofString "nth_rest") s_nth_rest []
  f_nth_of : Fn K mg (Str.ofString "nth_of") s_nth_of []
  f_need_index : Fn K mg (Str.ofString "need_index") s_need_index []
  f_number_in : Fn K mg (Str.ofString "number_in") s_number_in []
  f_place_in : Fn K mg (Str.ofString "place_in") s_place_in []
  f_summed : Fn K mg (Str.ofString "summed") s_summed []
  f_sum_in : Fn K mg (Str.ofString "sum_in") s_sum_in []
  f__law_box : Fn K mg (Str.ofString "_law_box") s__law_box []
  f__law_take : Fn K mg (Str.ofString "_law_take") s__law_take []
  f__law_pick : Fn K mg (Str.ofString "_law_pick") s__law_pick []
  f__law_is : Fn K mg (Str.ofString "_law_is") s__law_is []
  f__law_int : Fn K mg (Str.ofString "_law_int") s__law_int []
  f__law_has : Fn K mg (Str.ofString "_law_has") s__law_has []
  f__law_drawn_lot : Fn K mg (Str.ofString "_law_drawn_lot") s__law_drawn_lot []
  f__law_other_form : Fn K mg (Str.ofString "_law_other_form") s__law_other_form []
  f__law_sides : Fn K mg (Str.ofString "_law_sides") s__law_sides []
  f__law_count : Fn K mg (Str.ofString "_law_count") s__law_count []
  f__law_sum : Fn K mg (Str.ofString "_law_sum") s__law_sum []
  f__law_wide_number_of : Fn K mg (Str.ofString "_law_wide_number_of") s__law_wide_number_of []
  f__law_stretch_right : Fn K mg (Str.ofString "_law_stretch_right") s__law_stretch_right []
  f__law_number_right : Fn K mg (Str.ofString "_law_number_right") s__law_number_right []
  f_law : Fn K mg (Str.ofString "law") s_law []
  z_abs : mg (Str.ofString "abs") = none
  z_bool : mg (Str.ofString "bool") = none
  z_enumerate : mg (Str.ofString "enumerate") = none
  z_int : mg (Str.ofString "int") = none
  z_isinstance : mg (Str.ofString "isinstance") = none
  z_len : mg (Str.ofString "len") = none
  z_list : mg (Str.ofString "list") = none
  z_max : mg (Str.ofString "max") = none
  z_min : mg (Str.ofString "min") = none
  z_range : mg (Str.ofString "range") = none
  z_sorted : mg (Str.ofString "sorted") = none
  z_str : mg (Str.ofString "str") = none
  z_sum : mg (Str.ofString "sum") = none
  z_tuple : mg (Str.ofString "tuple") = none
  z_zip : mg (Str.ofString "zip") = none
  c_MOST_BOUND : ∃ t, mg (Str.ofString "MOST_BOUND") = some (.int (50000) t)
  c_MOST_INDEX : ∃ t, mg (Str.ofString "MOST_INDEX") = some (.int (100000000000000000000000000000000000000000) t)
  c_MOST_MODULUS : ∃ t, mg (Str.ofString "MOST_MODULUS") = some (.int (720) t)
theorem bt_abs : bootBuiltins (Str.ofString "abs") = some (.builtin "abs") := by decide +kernel
theorem bt_bool : bootBuiltins (Str.ofString "bool") = some (.type "bool") := by decide +kernel
theorem bt_enumerate : bootBuiltins (Str.ofString "enumerate") = some (.type "enumerate") := by decide +kernel
theorem bt_int : bootBuiltins (Str.ofString "int") = some (.type "int") := by decide +kernel
theorem bt_isinstance : bootBuiltins (Str.ofString "isinstance") = some (.builtin "isinstance") := by decide +kernel
theorem bt_len : bootBuiltins (Str.ofString "len") = some (.builtin "len") := by decide +kernel
theorem bt_list : bootBuiltins (Str.ofString "list") = some (.type "list") := by decide +kernel
theorem bt_max : bootBuiltins (Str.ofString "max") = some (.builtin "max") := by decide +kernel
theorem bt_min : bootBuiltins (Str.ofString "min") = some (.builtin "min") := by decide +kernel
theorem bt_range : bootBuiltins (Str.ofString "range") = some (.type "range") := by decide +kernel
theorem bt_sorted : bootBuiltins (Str.ofString "sorted") = some (.builtin "sorted") := by decide +kernel
theorem bt_str : bootBuiltins (Str.ofString "str") = some (.type "str") := by decide +kernel
theorem bt_sum : bootBuiltins (Str.ofString "sum") = some (.builtin "sum") := by decide +kernel
theorem bt_tuple : bootBuiltins (Str.ofString "tuple") = some (.type "tuple") := by decide +kernel
theorem bt_zip : bootBuiltins (Str.ofString "zip") = some (.type "zip") := by decide +kernel
end T79
set_option maxHeartbeats 4000000
namespace T79
open PySem PySem.Spec L2 DL
section
variable {P : Program} {w : World} {K : PySem.W.Frag} {mg : Str → Option Value} {base : Heap}
theorem sc_is_integer : FnScope [Str.ofString "value"] [Str.ofString "value"] (defScope s_is_integer) := ⟨rfl, rfl, rfl, by decide +kernel, rfl, by decide +kernel, by decide +kernel⟩
theorem ok_is_integer (T : Txt K mg) : Ok P w K mg base 1 (Str.ofString "is_integer") s_is_integer [] [Str.ofString "value"] p_is_integer := by
  obtain ⟨a, fd, F, m⟩ := T.f_is_integer
  refine ⟨a, fd, F, m, fn_D (k := 0) F sc_is_integer fun cdv A outer s H E hr => ?_⟩
  have tk := takes_of (X := cxOf (L2.CX P w) P w K mg base [Str.ofString "value"] (Str.ofString "is_integer") (defScope s_is_integer) a cdv A outer s H E) rfl rfl rfl rfl
  have hp := passes_of (X := cxOf (L2.CX P w) P w K mg base [Str.ofString "value"] (Str.ofString "is_integer") (defScope s_is_integer) a cdv A outer s H E) rfl
  exact (ds_one (ds_ret (de_and (de_callB call_isiA cd_isi (by rfl) T.z_isinstance bt_isinstance (da_cons (dv 0) (da_cons (de_ty (by rfl) T.z_int bt_int) da_nil))) (de_one (de_not (de_callB call_isiA cd_isi (by rfl) T.z_isinstance bt_isinstance (da_cons (dv 0) (da_cons (de_ty (by rfl) T.z_bool bt_bool) da_nil))))))))
theorem sc_is_below : FnScope [Str.ofString "value", Str.ofString "limit"] [Str.ofString "value", Str.ofString "limit"] (defScope s_is_below) := ⟨rfl, rfl, rfl, by decide +kernel, rfl, by decide +kernel, by decide +kernel⟩
theorem ok_is_below (T : Txt K mg) : Ok P w K mg base 2 (Str.ofString "is_below") s_is_below [] [Str.ofString "value", Str.ofString "limit"] p_is_below := by
  obtain ⟨a, fd, F, m⟩ := T.f_is_below
  refine ⟨a, fd, F, m, fn_D (k := 1) F sc_is_below fun cdv A outer s H E hr => ?_⟩
  obtain ⟨a_is_integer, fd_is_integer, F_is_integer, m_is_integer, G_is_integer⟩ := ok_is_integer (P := P) (w := w) (base := base) T
  have k_is_integer := F_is_integer.kp
  have b_is_integer_1 := kbn0 (ps := [Str.ofString "value"]) F_is_integer 1 [] (fun us ws => [us.getD 0 .none]) (fun vs zs => [vs.getD 0 .non]) (fun r1 r2 => (.cons (vals_getD r1 0) .nil)) fun _ _ _ _ _ _ us ws l1 l2 => match us, ws, l1, l2 with | [_], [], _, _ => rfl
  have tk := takes_of (X := cxOf (L2.CX P w) P w K mg base [Str.ofString "value", Str.ofString "limit"] (Str.ofString "is_below") (defScope s_is_below) a cdv A outer s H E) rfl rfl rfl rfl
  have hp := passes_of (X := cxOf (L2.CX P w) P w K mg base [Str.ofString "value", Str.ofString "limit"] (Str.ofString "is_below") (defScope s_is_below) a cdv A outer s H E) rfl
  exact (ds_one (ds_ret (de_and (de_call (gD := (fun ds es => [ds.getD 0 .non])) tk G_is_integer (hr.mono (by decide)) (by rfl) m_is_integer k_is_integer b_is_integer_1 (fun _ _ _ _ _ _ h1 h2 => (Reps.cons (reps_getD h1 0) Reps.nil)) (fun _ _ _ _ => rfl) (da_cons (dv 0) da_nil) dk_nil) (de_one (de_chain op_le op_lt (opd_cmp _) (opd_cmp _) de_int (dv 0) (dv 1))))))
theorem sc_need_number : FnScope [Str.ofString "value", Str.ofString "at", Str.ofString "most"] [Str.ofString "value", Str.ofString "at", Str.ofString "most"] (defScope s_need_number) := ⟨rfl, rfl, rfl, by decide +kernel, rfl, by decide +kernel, by decide +kernel⟩
theorem ok_need_number (T : Txt K mg) : Ok P w K mg base 2 (Str.ofString "need_number") s_need_number [V.int (-1), V.int 10000000000000000000000000000000000000000] [Str.ofString "value", Str.ofString "at", Str.ofString "most"] p_need_number := by
  obtain ⟨a, fd, F, m⟩ := T.f_need_number
  refine ⟨a, fd, F, m, fn_D (k := 1) F sc_need_number fun cdv A outer s H E hr => ?_⟩
  obtain ⟨a_is_integer, fd_is_integer, F_is_integer, m_is_integer, G_is_integer⟩ := ok_is_integer (P := P) (w := w) (base := base) T
  have k_is_integer := F_is_integer.kp
  have b_is_integer_1 := kbn0 (ps := [Str.ofString "value"]) F_is_integer 1 [] (fun us ws => [us.getD 0 .none]) (fun vs zs => [vs.getD 0 .non]) (fun r1 r2 => (.cons (vals_getD r1 0) .nil)) fun _ _ _ _ _ _ us ws l1 l2 => match us, ws, l1, l2 with | [_], [], _, _ => rfl
  have tk := takes_of (X := cxOf (L2.CX P w) P w K mg base [Str.ofString "value", Str.ofString "at", Str.ofString "most"] (Str.ofString "need_number") (defScope s_need_number) a cdv A outer s H E) rfl rfl rfl rfl
  have hp := passes_of (X := cxOf (L2.CX P w) P w K mg base [Str.ofString "value", Str.ofString "at", Str.ofString "most"] (Str.ofString "need_number") (defScope s_need_number) a cdv A outer s H E) rfl
  exact (ds_one (ds_if (dt_w (dw_or (dt_not (dt_truth (de_call (gD := (fun ds es => [ds.getD 0 .non])) tk G_is_integer (hr.mono (by decide)) (by rfl) m_is_integer k_is_integer b_is_integer_1 (fun _ _ _ _ _ _ h1 h2 => (Reps.cons (reps_getD h1 0) Reps.nil)) (fun _ _ _ _ => rfl) (da_cons (dv 0) da_nil) dk_nil))) (dw_or1 (dt_cmp op_ge (opd_cmp _) (de_callB call_abs cd_abs (by rfl) T.z_abs bt_abs (da_cons (dv 0) da_nil)) (dv 2) (nomark _))))) (ds_one ds_never) ds_nil))
theorem sc_are_rising : FnScope [Str.ofString "value", Str.ofString "least", Str.ofString "most", Str.ofString "at", Str.ofString "one"] [Str.ofString "value", Str.ofString "least", Str.ofString "most"] (defScope s_are_rising) := ⟨rfl, rfl, rfl, by decide +kernel, rfl, by decide +kernel, by decide +kernel⟩
theorem ok_are_rising (T : Txt K mg) : Ok P w K mg base 2 (Str.ofString "are_rising") s_are_rising [] [Str.ofString "value", Str.ofString "least", Str.ofString "most"] p_are_rising := by
  obtain ⟨a, fd, F, m⟩ := T.f_are_rising
  refine ⟨a, fd, F, m, fn_D (k := 1) F sc_are_rising fun cdv A outer s H E hr => ?_⟩
  obtain ⟨a_is_integer, fd_is_integer, F_is_integer, m_is_integer, G_is_integer⟩ := ok_is_integer (P := P) (w := w) (base := base) T
  have k_is_integer := F_is_integer.kp
  have b_is_integer_1 := kbn0 (ps := [Str.ofString "value"]) F_is_integer 1 [] (fun us ws => [us.getD 0 .none]) (fun vs zs => [vs.getD 0 .non]) (fun r1 r2 => (.cons (vals_getD r1 0) .nil)) fun _ _ _ _ _ _ us ws l1 l2 => match us, ws, l1, l2 with | [_], [], _, _ => rfl
  have tk := takes_of (X := cxOf (L2.CX P w) P w K mg base [Str.ofString "value", Str.ofString "least", Str.ofString "most", Str.ofString "at", Str.ofString "one"] (Str.ofString "are_rising") (defScope s_are_rising) a cdv A outer s H E) rfl rfl rfl rfl
  have hp := passes_of (X := cxOf (L2.CX P w) P w K mg base [Str.ofString "value", Str.ofString "least", Str.ofString "most", Str.ofString "at", Str.ofString "one"] (Str.ofString "are_rising") (defScope s_are_rising) a cdv A outer s H E) rfl
  exact (ds_cons (ds_if (dt_not (dt_truth (de_callB call_isiA cd_isi (by rfl) T.z_isinstance bt_isinstance (da_cons (dv 0) (da_cons (de_ty (by rfl) T.z_tuple bt_tuple) da_nil))))) (ds_one (ds_ret de_bl)) ds_nil) (ds_cons (ds_for hp rfl (di_enumA (by rfl) T.z_enumerate (da_cons (dv 0) da_nil)) (dg_tup rfl (dgs_cons (dg_name (i := 3) sc_are_rising.nd (by rfl) (by first | exact Or.inl rfl | exact Or.inr rfl)) (dgs_cons (dg_name (i := 4) sc_are_rising.nd (by rfl) (by first | exact Or.inl rfl | exact Or.inr rfl)) dgs_nil))) (ds_one (ds_if (dt_w (dw_or (dt_not (dt_truth (de_call (gD := (fun ds es => [ds.getD 0 .non])) tk G_is_integer (hr.mono (by decide)) (by rfl) m_is_integer k_is_integer b_is_integer_1 (fun _ _ _ _ _ _ h1 h2 => (Reps.cons (reps_getD h1 0) Reps.nil)) (fun _ _ _ _ => rfl) (da_cons (dv 4) da_nil) dk_nil))) (dw_or (dt_not (dt_chain op_le op_lt (opd_cmp _) (opd_cmp _) (dv 1) (dv 4) (dv 2))) (dw_or1 (dt_w (dw_and (dt_cmp op_gt (opd_cmp _) (dv 3) de_int (nomark _)) (dw_and1 (dt_cmp op_ge (opd_cmp _) (de_ix (dv 0) (de_op op_sub opd_sub (dv 3) de_int)) (dv 4) (nomark _))))))))) (ds_one (ds_ret de_bl)) ds_nil))) (ds_one (ds_ret de_bl))))
theorem sc_is_end : FnScope [Str.ofString "value"] [Str.ofString "value"] (defScope s_is_end) := ⟨rfl, rfl, rfl, by decide +kernel, rfl, by decide +kernel, by decide +kernel⟩
theorem ok_is_end (T : Txt K mg) : Ok P w K mg base 2 (Str.ofString "is_end") s_is_end [] [Str.ofString "value"] p_is_end := by
  obtain ⟨a, fd, F, m⟩ := T.f_is_end
  refine ⟨a, fd, F, m, fn_D (k := 1) F sc_is_end fun cdv A outer s H E hr => ?_⟩
  obtain ⟨a_is_integer, fd_is_integer, F_is_integer, m_is_integer, G_is_integer⟩ := ok_is_integer (P := P) (w := w) (base := base) T
  have k_is_integer := F_is_integer.kp
  have b_is_integer_1 := kbn0 (ps := [Str.ofString "value"]) F_is_integer 1 [] (fun us ws => [us.getD 0 .none]) (fun vs zs => [vs.getD 0 .non]) (fun r1 r2 => (.cons (vals_getD r1 0) .nil)) fun _ _ _ _ _ _ us ws l1 l2 => match us, ws, l1, l2 with | [_], [], _, _ => rfl
  have tk := takes_of (X := cxOf (L2.CX P w) P w K mg base [Str.ofString "value"] (Str.ofString "is_end") (defScope s_is_end) a cdv A outer s H E) rfl rfl rfl rfl
  have hp := passes_of (X := cxOf (L2.CX P w) P w K mg base [Str.ofString "value"] (Str.ofString "is_end") (defScope s_is_end) a cdv A outer s H E) rfl
  exact (ds_one (ds_ret (de_and (de_call (gD := (fun ds es => [ds.getD 0 .non])) tk G_is_integer (hr.mono (by decide)) (by rfl) m_is_integer k_is_integer b_is_integer_1 (fun _ _ _ _ _ _ h1 h2 => (Reps.cons (reps_getD h1 0) Reps.nil)) (fun _ _ _ _ => rfl) (da_cons (dv 0) da_nil) dk_nil) (de_one (de_cmp op_le (opd_cmp _) (de_callB call_abs cd_abs (by rfl) T.z_abs bt_abs (da_cons (dv 0) da_nil)) (by obtain ⟨t, h⟩ := T.c_MOST_BOUND; exact de_glob (v := V.int 50000) (by rfl) h ⟨t, rfl⟩ fun _ _ => rfl) (nomark _))))))
theorem sc_is_lot : FnScope [Str.ofString "value"] [Str.ofString "value"] (defScope s_is_lot) := ⟨rfl, rfl, rfl, by decide +kernel, rfl, by decide +kernel, by decide +kernel⟩
theorem ok_is_lot (T : Txt K mg) : Ok P w K mg base 3 (Str.ofString "is_lot") s_is_lot [] [Str.ofString "value"] p_is_lot := by
  obtain ⟨a, fd, F, m⟩ := T.f_is_lot
  refine ⟨a, fd, F, m, fn_D (k := 2) F sc_is_lot fun cdv A outer s H E hr => ?_⟩
  obtain ⟨a_are_rising, fd_are_rising, F_are_rising, m_are_rising, G_are_rising⟩ := ok_are_rising (P := P) (w := w) (base := base) T
  have k_are_rising := F_are_rising.kp
  obtain ⟨a_is_end, fd_is_end, F_is_end, m_is_end, G_is_end⟩ := ok_is_end (P := P) (w := w) (base := base) T
  have k_is_end := F_is_end.kp
  obtain ⟨a_is_integer, fd_is_integer, F_is_integer, m_is_integer, G_is_integer⟩ := ok_is_integer (P := P) (w := w) (base := base) T
  have k_is_integer := F_is_integer.kp
  have b_is_integer_1 := kbn0 (ps := [Str.ofString "value"]) F_is_integer 1 [] (fun us ws => [us.getD 0 .none]) (fun vs zs => [vs.getD 0 .non]) (fun r1 r2 => (.cons (vals_getD r1 0) .nil)) fun _ _ _ _ _ _ us ws l1 l2 => match us, ws, l1, l2 with | [_], [], _, _ => rfl
  have b_are_rising_3 := kbn0 (ps := [Str.ofString "value", Str.ofString "least", Str.ofString "most"]) F_are_rising 3 [] (fun us ws => [us.getD 0 .none, us.getD 1 .none, us.getD 2 .none]) (fun vs zs => [vs.getD 0 .non, vs.getD 1 .non, vs.getD 2 .non]) (fun r1 r2 => (.cons (vals_getD r1 0) (.cons (vals_getD r1 1) (.cons (vals_getD r1 2) .nil)))) fun _ _ _ _ _ _ us ws l1 l2 => match us, ws, l1, l2 with | [_, _, _], [], _, _ => rfl
  have b_is_end_1 := kbn0 (ps := [Str.ofString "value"]) F_is_end 1 [] (fun us ws => [us.getD 0 .none]) (fun vs zs => [vs.getD 0 .non]) (fun r1 r2 => (.cons (vals_getD r1 0) .nil)) fun _ _ _ _ _ _ us ws l1 l2 => match us, ws, l1, l2 with | [_], [], _, _ => rfl
  have tk := takes_of (X := cxOf (L2.CX P w) P w K mg base [Str.ofString "value"] (Str.ofString "is_lot") (defScope s_is_lot) a cdv A outer s H E) rfl rfl rfl rfl
  have hp := passes_of (X := cxOf (L2.CX P w) P w K mg base [Str.ofString "value"] (Str.ofString "is_lot") (defScope s_is_lot) a cdv A outer s H E) rfl
  exact (ds_cons (ds_if (dt_w (dw_or (dt_not (dt_truth (de_callB call_isiA cd_isi (by rfl) T.z_isinstance bt_isinstance (da_cons (dv 0) (da_cons (de_ty (by rfl) T.z_tuple bt_tuple) da_nil))))) (dw_or (dt_cmp (op_neD hr.units) opd_ne (de_callB call_len cd_len (by rfl) T.z_len bt_len (da_cons (dv 0) da_nil)) de_int (nomark _)) (dw_or (dt_not (dt_truth (de_call (gD := (fun ds es => [ds.getD 0 .non])) tk G_is_integer (hr.mono (by decide)) (by rfl) m_is_integer k_is_integer b_is_integer_1 (fun _ _ _ _ _ _ h1 h2 => (Reps.cons (reps_getD h1 0) Reps.nil)) (fun _ _ _ _ => rfl) (da_cons (de_ix (dv 0) de_int) da_nil) dk_nil))) (dw_or1 (dt_not (dt_chain op_le op_le (opd_cmp _) (opd_cmp _) de_int (de_ix (dv 0) de_int) (by obtain ⟨t, h⟩ := T.c_MOST_MODULUS; exact de_glob (v := V.int 720) (by rfl) h ⟨t, rfl⟩ fun _ _ => rfl)))))))) (ds_one (ds_ret de_bl)) ds_nil) (ds_cons (ds_if (dt_w (dw_or (dt_not (dt_truth (de_call (gD := (fun ds es => [ds.getD 0 .non, ds.getD 1 .non, ds.getD 2 .non])) tk G_are_rising (hr.mono (by decide)) (by rfl) m_are_rising k_are_rising b_are_rising_3 (fun _ _ _ _ _ _ h1 h2 => (Reps.cons (reps_getD h1 0) (Reps.cons (reps_getD h1 1) (Reps.cons (reps_getD h1 2) Reps.nil)))) (fun _ _ _ _ => rfl) (da_cons (de_ix (dv 0) de_int) (da_cons de_int (da_cons (de_ix (dv 0) de_int) da_nil))) dk_nil))) (dw_or1 (dt_not (dt_truth (de_call (gD := (fun ds es => [ds.getD 0 .non, ds.getD 1 .non, ds.getD 2 .non])) tk G_are_rising (hr.mono (by decide)) (by rfl) m_are_rising k_are_rising b_are_rising_3 (fun _ _ _ _ _ _ h1 h2 => (Reps.cons (reps_getD h1 0) (Reps.cons (reps_getD h1 1) (Reps.cons (reps_getD h1 2) Reps.nil)))) (fun _ _ _ _ => rfl) (da_cons (de_ix (dv 0) de_int) (da_cons de_int (da_cons (de_ix (dv 0) de_int) da_nil))) dk_nil)))))) (ds_one (ds_ret de_bl)) ds_nil) (ds_one (ds_ret (de_and (de_call (gD := (fun ds es => [ds.getD 0 .non])) tk G_is_end (hr.mono (by decide)) (by rfl) m_is_end k_is_end b_is_end_1 (fun _ _ _ _ _ _ h1 h2 => (Reps.cons (reps_getD h1 0) Reps.nil)) (fun _ _ _ _ => rfl) (da_cons (de_ix (dv 0) de_int) da_nil) dk_nil) (de_and (de_call (gD := (fun ds es => [ds.getD 0 .non])) tk G_is_end (hr.mono (by decide)) (by rfl) m_is_end k_is_end b_is_end_1 (fun _ _ _ _ _ _ h1 h2 => (Reps.cons (reps_getD h1 0) Reps.nil)) (fun _ _ _ _ => rfl) (da_cons (de_ix (dv 0) de_int) da_nil) dk_nil) (de_and (de_cmp op_le (opd_cmp _) (de_ix (dv 0) de_int) (de_ix (dv 0) de_int) (nomark _)) (de_one (de_call (gD := (fun ds es => [ds.getD 0 .non, ds.getD 1 .non, ds.getD 2 .non])) tk G_are_rising (hr.mono (by decide)) (by rfl) m_are_rising k_are_rising b_are_rising_3 (fun _ _ _ _ _ _ h1 h2 => (Reps.cons (reps_getD h1 0) (Reps.cons (reps_getD h1 1) (Reps.cons (reps_getD h1 2) Reps.nil)))) (fun _ _ _ _ => rfl) (da_cons (de_ix (dv 0) de_int) (da_cons (de_ix (dv 0) de_int) (da_cons (de_ix (dv 0) de_int) da_nil))) dk_nil)))))))))
theorem sc_need_lot : FnScope [Str.ofString "value", Str.ofString "at"] [Str.ofString "value", Str.ofString "at"] (defScope s_need_lot) := ⟨rfl, rfl, rfl, by decide +kernel, rfl, by decide +kernel, by decide +kernel⟩
theorem ok_need_lot (T : Txt K mg) : Ok P w K mg base 4 (Str.ofString "need_lot") s_need_lot [V.int (-1)] [Str.ofString "value", Str.ofString "at"] p_need_lot := by
  obtain ⟨a, fd, F, m⟩ := T.f_need_lot
  refine ⟨a, fd, F, m, fn_D (k := 3) F sc_need_lot fun cdv A outer s H E hr => ?_⟩
  obtain ⟨a_is_lot, fd_is_lot, F_is_lot, m_is_lot, G_is_lot⟩ := ok_is_lot (P := P) (w := w) (base := base) T
  have k_is_lot := F_is_lot.kp
  have b_is_lot_1 := kbn0 (ps := [Str.ofString "value"]) F_is_lot 1 [] (fun us ws => [us.getD 0 .none]) (fun vs zs => [vs.getD 0 .non]) (fun r1 r2 => (.cons (vals_getD r1 0) .nil)) fun _ _ _ _ _ _ us ws l1 l2 => match us, ws, l1, l2 with | [_], [], _, _ => rfl
  have tk := takes_of (X := cxOf (L2.CX P w) P w K mg base [Str.ofString "value", Str.ofString "at"] (Str.ofString "need_lot") (defScope s_need_lot) a cdv A outer s H E) rfl rfl rfl rfl
  have hp := passes_of (X := cxOf (L2.CX P w) P w K mg base [Str.ofString "value", Str.ofString "at"] (Str.ofString "need_lot") (defScope s_need_lot) a cdv A outer s H E) rfl
  exact (ds_one (ds_if (dt_not (dt_truth (de_call (gD := (fun ds es => [ds.getD 0 .non])) tk G_is_lot (hr.mono (by decide)) (by rfl) m_is_lot k_is_lot b_is_lot_1 (fun _ _ _ _ _ _ h1 h2 => (Reps.cons (reps_getD h1 0) Reps.nil)) (fun _ _ _ _ => rfl) (da_cons (dv 0) da_nil) dk_nil))) (ds_one ds_never) ds_nil))
theorem sc_counted : FnScope [Str.ofString "rests", Str.ofString "modulus", Str.ofString "low", Str.ofString "high", Str.ofString "rest"] [Str.ofString "rests", Str.ofString "modulus", Str.ofString "low", Str.ofString "high"] (defScope s_counted) := ⟨rfl, rfl, rfl, by decide +kernel, rfl, by decide +kernel, by decide +kernel⟩
theorem ok_counted (T : Txt K mg) : Ok P w K mg base 1 (Str.ofString "counted") s_counted [] [Str.ofString "rests", Str.ofString "modulus", Str.ofString "low", Str.ofString "high"] p_counted := by
  obtain ⟨a, fd, F, m⟩ := T.f_counted
  refine ⟨a, fd, F, m, fn_D (k := 0) F sc_counted fun cdv A outer s H E hr => ?_⟩
  have tk := takes_of (X := cxOf (L2.CX P w) P w K mg base [Str.ofString "rests", Str.ofString "modulus", Str.ofString "low", Str.ofString "high", Str.ofString "rest"] (Str.ofString "counted") (defScope s_counted) a cdv A outer s H E) rfl rfl rfl rfl
  have hp := passes_of (X := cxOf (L2.CX P w) P w K mg base [Str.ofString "rests", Str.ofString "modulus", Str.ofString "low", Str.ofString "high", Str.ofString "rest"] (Str.ofString "counted") (defScope s_counted) a cdv A outer s H E) rfl
  exact (ds_cons (ds_if (dt_cmp op_gt (opd_cmp _) (dv 2) (dv 3) (nomark _)) (ds_one (ds_ret de_int)) ds_nil) (ds_one (ds_ret (de_callB (cr_sum rfl) cd_sum (by rfl) T.z_sum bt_sum (da_cons (de_lc rfl sc_counted.nd (di_seq (dv 0)) (blkOk_by (N := [Str.ofString "rests", Str.ofString "modulus", Str.ofString "low", Str.ofString "high", Str.ofString "rest"]) (sc := defScope s_counted) (own := [(Str.ofString "rest", 4)]) (by decide +kernel)) (fun _ _ _ _ _ => (dg_name (i := 4) sc_counted.nd (by rfl) (by first | exact Or.inl rfl | exact Or.inr rfl))) (fun _ _ _ _ _ => dts_nil) (fun _ _ _ _ _ => (de_op op_sub opd_sub (de_op op_fdivD opd_fdiv (de_op op_sub opd_sub (dv 3) (dv 4)) (dv 1)) (de_op op_fdivD opd_fdiv (de_op op_sub opd_sub (de_op op_sub opd_sub (dv 2) de_int) (dv 4)) (dv 1))))) da_nil)))))
theorem sc_parts_of : FnScope [Str.ofString "lot", Str.ofString "low", Str.ofString "high", Str.ofString "modulus", Str.ofString "below", Str.ofString "first", Str.ofString "between", Str.ofString "last", Str.ofString "above", Str.ofString "sides", Str.ofString "one"] [Str.ofString "lot", Str.ofString "low", Str.ofString "high"] (defScope s_parts_of) := ⟨rfl, rfl, rfl, by decide +kernel, rfl, by decide +kernel, by decide +kernel⟩
theorem ok_parts_of (T : Txt K mg) : Ok P w K mg base 1 (Str.ofString "parts_of") s_parts_of [] [Str.ofString "lot", Str.ofString "low", Str.ofString "high"] p_parts_of := by
  obtain ⟨a, fd, F, m⟩ := T.f_parts_of
  refine ⟨a, fd, F, m, fn_D (k := 0) F sc_parts_of fun cdv A outer s H E hr => ?_⟩
  have tk := takes_of (X := cxOf (L2.CX P w) P w K mg base [Str.ofString "lot", Str.ofString "low", Str.ofString "high", Str.ofString "modulus", Str.ofString "below", Str.ofString "first", Str.ofString "between", Str.ofString "last", Str.ofString "above", Str.ofString "sides", Str.ofString "one"] (Str.ofString "parts_of") (defScope s_parts_of) a cdv A outer s H E) rfl rfl rfl rfl
  have hp := passes_of (X := cxOf (L2.CX P w) P w K mg base [Str.ofString "lot", Str.ofString "low", Str.ofString "high", Str.ofString "modulus", Str.ofString "below", Str.ofString "first", Str.ofString "between", Str.ofString "last", Str.ofString "above", Str.ofString "sides", Str.ofString "one"] (Str.ofString "parts_of") (defScope s_parts_of) a cdv A outer s H E) rfl
  exact (ds_cons (ds_asg (dg_tup rfl (dgs_cons (dg_name (i := 3) sc_parts_of.nd (by rfl) (by first | exact Or.inl rfl | exact Or.inr rfl)) (dgs_cons (dg_name (i := 4) sc_parts_of.nd (by rfl) (by first | exact Or.inl rfl | exact Or.inr rfl)) (dgs_cons (dg_name (i := 5) sc_parts_of.nd (by rfl) (by first | exact Or.inl rfl | exact Or.inr rfl)) (dgs_cons (dg_name (i := 6) sc_parts_of.nd (by rfl) (by first | exact Or.inl rfl | exact Or.inr rfl)) (dgs_cons (dg_name (i := 7) sc_parts_of.nd (by rfl) (by first | exact Or.inl rfl | exact Or.inr rfl)) (dgs_cons (dg_name (i := 8) sc_parts_of.nd (by rfl) (by first | exact Or.inl rfl | exact Or.inr rfl)) dgs_nil))))))) (dv 0)) (ds_cons (ds_set (i := 9) sc_parts_of.nd (by rfl) (by first | exact Or.inl rfl | exact Or.inr rfl) (dv_of (de_lst (da_cons (de_tup (da_cons (dv 4) (da_cons (dv 3) (da_cons (dv 1) (da_cons (de_callB (call_min2 rfl) cd_min (by rfl) T.z_min bt_min (da_cons (dv 2) (da_cons (de_op op_sub opd_sub (dv 5) de_int) da_nil))) da_nil))))) (da_cons (de_tup (da_cons (dv 8) (da_cons (dv 3) (da_cons (de_callB (call_max2 rfl) cd_max (by rfl) T.z_max bt_max (da_cons (dv 1) (da_cons (dv 7) da_nil))) (da_cons (dv 2) da_nil))))) da_nil))))) (ds_one (ds_ret (de_tup (da_cons (dv 9) (da_cons (de_lc rfl sc_parts_of.nd (di_seq (dv 6)) (blkOk_by (N := [Str.ofString "lot", Str.ofString "low", Str.ofString "high", Str.ofString "modulus", Str.ofString "below", Str.ofString "first", Str.ofString "between", Str.ofString "last", Str.ofString "above", Str.ofString "sides", Str.ofString "one"]) (sc := defScope s_parts_of) (own := [(Str.ofString "one", 10)]) (by decide +kernel)) (fun _ _ _ _ _ => (dg_name (i := 10) sc_parts_of.nd (by rfl) (by first | exact Or.inl rfl | exact Or.inr rfl))) (fun _ _ _ _ _ => (dts_one (dt_chain op_le op_le (opd_cmp _) (opd_cmp _) (dv 1) (dv 10) (dv 2)))) (fun _ _ _ _ _ => (dv 10))) da_nil)))))))
theorem sc_many_in : FnScope [Str.ofString "lot", Str.ofString "low", Str.ofString "high", Str.ofString "sides", Str.ofString "between", Str.ofString "side"] [Str.ofString "lot", Str.ofString "low", Str.ofString "high"] (defScope s_many_in) := ⟨rfl, rfl, rfl, by decide +kernel, rfl, by decide +kernel, by decide +kernel⟩
theorem ok_many_in (T : Txt K mg) : Ok P w K mg base 2 (Str.ofString "many_in") s_many_in [] [Str.ofString "lot", Str.ofString "low", Str.ofString "high"] p_many_in := by
  obtain ⟨a, fd, F, m⟩ := T.f_many_in
  refine ⟨a, fd, F, m, fn_D (k := 1) F sc_many_in fun cdv A outer s H E hr => ?_⟩
  obtain ⟨a_counted, fd_counted, F_counted, m_counted, G_counted⟩ := ok_counted (P := P) (w := w) (base := base) T
  have k_counted := F_counted.kp
  have sb_counted : Binds K _ [Str.ofString "rests", Str.ofString "modulus", Str.ofString "low", Str.ofString "high"] [] := F_counted.bindsN fun _ _ _ _ _ _ us hl => match us, hl with | [_, _, _, _], _ => rfl
  obtain ⟨a_parts_of, fd_parts_of, F_parts_of, m_parts_of, G_parts_of⟩ := ok_parts_of (P := P) (w := w) (base := base) T
  have k_parts_of := F_parts_of.kp
  have b_parts_of_3 := kbn0 (ps := [Str.ofString "lot", Str.ofString "low", Str.ofString "high"]) F_parts_of 3 [] (fun us ws => [us.getD 0 .none, us.getD 1 .none, us.getD 2 .none]) (fun vs zs => [vs.getD 0 .non, vs.getD 1 .non, vs.getD 2 .non]) (fun r1 r2 => (.cons (vals_getD r1 0) (.cons (vals_getD r1 1) (.cons (vals_getD r1 2) .nil)))) fun _ _ _ _ _ _ us ws l1 l2 => match us, ws, l1, l2 with | [_, _, _], [], _, _ => rfl
  have tk := takes_of (X := cxOf (L2.CX P w) P w K mg base [Str.ofString "lot", Str.ofString "low", Str.ofString "high", Str.ofString "sides", Str.ofString "between", Str.ofString "side"] (Str.ofString "many_in") (defScope s_many_in) a cdv A outer s H E) rfl rfl rfl rfl
  have hp := passes_of (X := cxOf (L2.CX P w) P w K mg base [Str.ofString "lot", Str.ofString "low", Str.ofString "high", Str.ofString "sides", Str.ofString "between", Str.ofString "side"] (Str.ofString "many_in") (defScope s_many_in) a cdv A outer s H E) rfl
  exact (ds_cons (ds_asg (dg_tup rfl (dgs_cons (dg_name (i := 3) sc_many_in.nd (by rfl) (by first | exact Or.inl rfl | exact Or.inr rfl)) (dgs_cons (dg_name (i := 4) sc_many_in.nd (by rfl) (by first | exact Or.inl rfl | exact Or.inr rfl)) dgs_nil))) (de_call (gD := (fun ds es => [ds.getD 0 .non, ds.getD 1 .non, ds.getD 2 .non])) tk G_parts_of (hr.mono (by decide)) (by rfl) m_parts_of k_parts_of b_parts_of_3 (fun _ _ _ _ _ _ h1 h2 => (Reps.cons (reps_getD h1 0) (Reps.cons (reps_getD h1 1) (Reps.cons (reps_getD h1 2) Reps.nil)))) (fun _ _ _ _ => rfl) (da_cons (dv 0) (da_cons (dv 1) (da_cons (dv 2) da_nil))) dk_nil)) (ds_one (ds_ret (de_op op_addA opd_add (de_callB call_len cd_len (by rfl) T.z_len bt_len (da_cons (dv 4) da_nil)) (de_callB (cr_sum rfl) cd_sum (by rfl) T.z_sum bt_sum (da_cons (de_lc rfl sc_many_in.nd (di_seq (dv 3)) (blkOk_by (N := [Str.ofString "lot", Str.ofString "low", Str.ofString "high", Str.ofString "sides", Str.ofString "between", Str.ofString "side"]) (sc := defScope s_many_in) (own := [(Str.ofString "side", 5)]) (by decide +kernel)) (fun _ _ _ _ _ => (dg_name (i := 5) sc_many_in.nd (by rfl) (by first | exact Or.inl rfl | exact Or.inr rfl))) (fun _ _ _ _ _ => dts_nil) (fun _ _ _ _ _ => (de_star takes0 G_counted (hr.mono (by decide)) (by rfl) m_counted k_counted sb_counted (dv 5) (fun _ _ _ _ _ h => h)))) da_nil))))))
theorem sc_need_stretch : FnScope [Str.ofString "lot", Str.ofString "low", Str.ofString "high"] [Str.ofString "lot", Str.ofString "low", Str.ofString "high"] (defScope s_need_stretch) := ⟨rfl, rfl, rfl, by decide +kernel, rfl, by decide +kernel, by decide +kernel⟩
theorem ok_need_stretch (T : Txt K mg) : Ok P w K mg base 5 (Str.ofString "need_stretch") s_need_stretch [] [Str.ofString "lot", Str.ofString "low", Str.ofString "high"] p_need_stretch := by
  obtain ⟨a, fd, F, m⟩ := T.f_need_stretch
  refine ⟨a, fd, F, m, fn_D (k := 4) F sc_need_stretch fun cdv A outer s H E hr => ?_⟩
  obtain ⟨a_need_lot, fd_need_lot, F_need_lot, m_need_lot, G_need_lot⟩ := ok_need_lot (P := P) (w := w) (base := base) T
  have k_need_lot := F_need_lot.kp
  obtain ⟨a_need_number, fd_need_number, F_need_number, m_need_number, G_need_number⟩ := ok_need_number (P := P) (w := w) (base := base) T
  have k_need_number := F_need_number.kp
  obtain ⟨its_b_need_lot_1, b_need_lot_1⟩ := kbn1 (ps := [Str.ofString "value", Str.ofString "at"]) F_need_lot (by simp) 1 [] (fun us its ws => [us.getD 0 .none, its.getD 0 .none]) (fun vs ds zs => [vs.getD 0 .non, ds.getD 0 .non]) (fun r1 r2 r3 => (.cons (vals_getD r1 0) (.cons (vals_getD r2 0) .nil))) fun _ _ _ _ _ _ _ us its ws l1 l2 l3 => match us, its, ws, l1, l2, l3 with | [_], [_], [], _, _, _ => ⟨_, rfl, rfl⟩
  obtain ⟨its_b_need_number_2, b_need_number_2⟩ := kbn1 (ps := [Str.ofString "value", Str.ofString "at", Str.ofString "most"]) F_need_number (by simp) 2 [] (fun us its ws => [us.getD 0 .none, us.getD 1 .none, its.getD 1 .none]) (fun vs ds zs => [vs.getD 0 .non, vs.getD 1 .non, ds.getD 1 .non]) (fun r1 r2 r3 => (.cons (vals_getD r1 0) (.cons (vals_getD r1 1) (.cons (vals_getD r2 1) .nil)))) fun _ _ _ _ _ _ _ us its ws l1 l2 l3 => match us, its, ws, l1, l2, l3 with | [_, _], [_, _], [], _, _, _ => ⟨_, rfl, rfl⟩
  have tk := takes_of (X := cxOf (L2.CX P w) P w K mg base [Str.ofString "lot", Str.ofString "low", Str.ofString "high"] (Str.ofString "need_stretch") (defScope s_need_stretch) a cdv A outer s H E) rfl rfl rfl rfl
  have hp := passes_of (X := cxOf (L2.CX P w) P w K mg base [Str.ofString "lot", Str.ofString "low", Str.ofString "high"] (Str.ofString "need_stretch") (defScope s_need_stretch) a cdv A outer s H E) rfl
  exact (ds_cons (ds_expr (de_call (gD := (fun ds es => [ds.getD 0 .non, .int (-1)])) tk G_need_lot (hr.mono (by decide)) (by rfl) m_need_lot k_need_lot b_need_lot_1 (fun _ _ _ _ _ _ h1 h2 => (Reps.cons (reps_getD h1 0) (Reps.cons (show Rep _ _ _ (.int (-1)) _ from rfl) Reps.nil))) (fun _ _ _ _ => rfl) (da_cons (dv 0) da_nil) dk_nil)) (ds_cons (ds_expr (de_call (gD := (fun ds es => [ds.getD 0 .non, ds.getD 1 .non, .int 10000000000000000000000000000000000000000])) tk G_need_number (hr.mono (by decide)) (by rfl) m_need_number k_need_number b_need_number_2 (fun _ _ _ _ _ _ h1 h2 => (Reps.cons (reps_getD h1 0) (Reps.cons (reps_getD h1 1) (Reps.cons (show Rep _ _ _ (.int 10000000000000000000000000000000000000000) _ from rfl) Reps.nil)))) (fun _ _ _ _ => rfl) (da_cons (dv 1) (da_cons de_int da_nil)) dk_nil)) (ds_one (ds_expr (de_call (gD := (fun ds es => [ds.getD 0 .non, ds.getD 1 .non, .int 10000000000000000000000000000000000000000])) tk G_need_number (hr.mono (by decide)) (by rfl) m_need_number k_need_number b_need_number_2 (fun _ _ _ _ _ _ h1 h2 => (Reps.cons (reps_getD h1 0) (Reps.cons (reps_getD h1 1) (Reps.cons (show Rep _ _ _ (.int 10000000000000000000000000000000000000000) _ from rfl) Reps.nil)))) (fun _ _ _ _ => rfl) (da_cons (dv 2) (da_cons de_int da_nil)) dk_nil)))))
end
end T79
set_option maxHeartbeats 4000000
namespace T79
open PySem PySem.Spec L2 DL
section
variable {P : Program} {w : World} {K : PySem.W.Frag} {mg : Str → Option Value} {base : Heap}
theorem sc_how_many : FnScope [Str.ofString "lot", Str.ofString "low", Str.ofString "high"] [Str.ofString "lot", Str.ofString "low", Str.ofString "high"] (defScope s_how_many) := ⟨rfl, rfl, rfl, by decide +kernel, rfl, by decide +kernel, by decide +kernel⟩
theorem ok_how_many (T : Txt K mg) : Ok P w K mg base 6 (Str.ofString "how_many") s_how_many [] [Str.ofString "lot", Str.ofString "low", Str.ofString "high"] p_how_many := by
  obtain ⟨a, fd, F, m⟩ := T.f_how_many
  refine ⟨a, fd, F, m, fn_D (k := 5) F sc_how_many fun cdv A outer s H E hr => ?_⟩
  obtain ⟨a_many_in, fd_many_in, F_many_in, m_many_in, G_many_in⟩ := ok_many_in (P := P) (w := w) (base := base) T
  have k_many_in := F_many_in.kp
  obtain ⟨a_need_stretch, fd_need_stretch, F_need_stretch, m_need_stretch, G_need_stretch⟩ := ok_need_stretch (P := P) (w := w) (base := base) T
  have k_need_stretch := F_need_stretch.kp
  have b_need_stretch_3 := kbn0 (ps := [Str.ofString "lot", Str.ofString "low", Str.ofString "high"]) F_need_stretch 3 [] (fun us ws => [us.getD 0 .none, us.getD 1 .none, us.getD 2 .none]) (fun vs zs => [vs.getD 0 .non, vs.getD 1 .non, vs.getD 2 .non]) (fun r1 r2 => (.cons (vals_getD r1 0) (.cons (vals_getD r1 1) (.cons (vals_getD r1 2) .nil)))) fun _ _ _ _ _ _ us ws l1 l2 => match us, ws, l1, l2 with | [_, _, _], [], _, _ => rfl
  have b_many_in_3 := kbn0 (ps := [Str.ofString "lot", Str.ofString "low", Str.ofString "high"]) F_many_in 3 [] (fun us ws => [us.getD 0 .none, us.getD 1 .none, us.getD 2 .none]) (fun vs zs => [vs.getD 0 .non, vs.getD 1 .non, vs.getD 2 .non]) (fun r1 r2 => (.cons (vals_getD r1 0) (.cons (vals_getD r1 1) (.cons (vals_getD r1 2) .nil)))) fun _ _ _ _ _ _ us ws l1 l2 => match us, ws, l1, l2 with | [_, _, _], [], _, _ => rfl
  have tk := takes_of (X := cxOf (L2.CX P w) P w K mg base [Str.ofString "lot", Str.ofString "low", Str.ofString "high"] (Str.ofString "how_many") (defScope s_how_many) a cdv A outer s H E) rfl rfl rfl rfl
  have hp := passes_of (X := cxOf (L2.CX P w) P w K mg base [Str.ofString "lot", Str.ofString "low", Str.ofString "high"] (Str.ofString "how_many") (defScope s_how_many) a cdv A outer s H E) rfl
  exact (ds_cons (ds_expr (de_call (gD := (fun ds es => [ds.getD 0 .non, ds.getD 1 .non, ds.getD 2 .non])) tk G_need_stretch (hr.mono (by decide)) (by rfl) m_need_stretch k_need_stretch b_need_stretch_3 (fun _ _ _ _ _ _ h1 h2 => (Reps.cons (reps_getD h1 0) (Reps.cons (reps_getD h1 1) (Reps.cons (reps_getD h1 2) Reps.nil)))) (fun _ _ _ _ => rfl) (da_cons (dv 0) (da_cons (dv 1) (da_cons (dv 2) da_nil))) dk_nil)) (ds_one (ds_ret (de_call (gD := (fun ds es => [ds.getD 0 .non, ds.getD 1 .non, ds.getD 2 .non])) tk G_many_in (hr.mono (by decide)) (by rfl) m_many_in k_many_in b_many_in_3 (fun _ _ _ _ _ _ h1 h2 => (Reps.cons (reps_getD h1 0) (Reps.cons (reps_getD h1 1) (Reps.cons (reps_getD h1 2) Reps.nil)))) (fun _ _ _ _ => rfl) (da_cons (dv 0) (da_cons (dv 1) (da_cons (dv 2) da_nil))) dk_nil))))
theorem sc_nth_rest : FnScope [Str.ofString "rests", Str.ofString "modulus", Str.ofString "start", Str.ofString "at", Str.ofString "steps", Str.ofString "rest"] [Str.ofString "rests", Str.ofString "modulus", Str.ofString "start", Str.ofString "at"] (defScope s_nth_rest) := ⟨rfl, rfl, rfl, by decide +kernel, rfl, by decide +kernel, by decide +kernel⟩
theorem ok_nth_rest (T : Txt K mg) : Ok P w K mg base 1 (Str.ofString "nth_rest") s_nth_rest [] [Str.ofString "rests", Str.ofString "modulus", Str.ofString "start", Str.ofString "at"] p_nth_rest := by
  obtain ⟨a, fd, F, m⟩ := T.f_nth_rest
  refine ⟨a, fd, F, m, fn_D (k := 0) F sc_nth_rest fun cdv A outer s H E hr => ?_⟩
  have tk := takes_of (X := cxOf (L2.CX P w) P w K mg base [Str.ofString "rests", Str.ofString "modulus", Str.ofString "start", Str.ofString "at", Str.ofString "steps", Str.ofString "rest"] (Str.ofString "nth_rest") (defScope s_nth_rest) a cdv A outer s H E) rfl rfl rfl rfl
  have hp := passes_of (X := cxOf (L2.CX P w) P w K mg base [Str.ofString "rests", Str.ofString "modulus", Str.ofString "start", Str.ofString "at", Str.ofString "steps", Str.ofString "rest"] (Str.ofString "nth_rest") (defScope s_nth_rest) a cdv A outer s H E) rfl
  exact (ds_cons (ds_set (i := 4) sc_nth_rest.nd (by rfl) (by first | exact Or.inl rfl | exact Or.inr rfl) (dv_of (de_callB cr_sortedI cd_sorted (by rfl) T.z_sorted bt_sorted (da_cons (de_lc rfl sc_nth_rest.nd (di_seq (dv 0)) (blkOk_by (N := [Str.ofString "rests", Str.ofString "modulus", Str.ofString "start", Str.ofString "at", Str.ofString "steps", Str.ofString "rest"]) (sc := defScope s_nth_rest) (own := [(Str.ofString "rest", 5)]) (by decide +kernel)) (fun _ _ _ _ _ => (dg_name (i := 5) sc_nth_rest.nd (by rfl) (by first | exact Or.inl rfl | exact Or.inr rfl))) (fun _ _ _ _ _ => dts_nil) (fun _ _ _ _ _ => (de_op op_mod opd_mod (de_op op_sub opd_sub (dv 5) (dv 2)) (dv 1)))) da_nil)))) (ds_one (ds_ret (de_op op_addA opd_add (de_op op_addA opd_add (dv 2) (de_op op_mulD opd_mul (de_op op_fdivD opd_fdiv (dv 3) (de_callB call_len cd_len (by rfl) T.z_len bt_len (da_cons (dv 4) da_nil))) (dv 1))) (de_ix (dv 4) (de_op op_mod opd_mod (dv 3) (de_callB call_len cd_len (by rfl) T.z_len bt_len (da_cons (dv 4) da_nil))))))))
theorem sc_nth_of : FnScope [Str.ofString "lot", Str.ofString "low", Str.ofString "at", Str.ofString "modulus", Str.ofString "below", Str.ofString "first", Str.ofString "between", Str.ofString "last", Str.ofString "above", Str.ofString "many", Str.ofString "some", Str.ofString "one"] [Str.ofString "lot", Str.ofString "low", Str.ofString "at"] (defScope s_nth_of) := ⟨rfl, rfl, rfl, by decide +kernel, rfl, by decide +kernel, by decide +kernel⟩
theorem ok_nth_of (T : Txt K mg) : Ok P w K mg base 2 (Str.ofString "nth_of") s_nth_of [] [Str.ofString "lot", Str.ofString "low", Str.ofString "at"] p_nth_of := by
  obtain ⟨a, fd, F, m⟩ := T.f_nth_of
  refine ⟨a, fd, F, m, fn_D (k := 1) F sc_nth_of fun cdv A outer s H E hr => ?_⟩
  obtain ⟨a_counted, fd_counted, F_counted, m_counted, G_counted⟩ := ok_counted (P := P) (w := w) (base := base) T
  have k_counted := F_counted.kp
  obtain ⟨a_nth_rest, fd_nth_rest, F_nth_rest, m_nth_rest, G_nth_rest⟩ := ok_nth_rest (P := P) (w := w) (base := base) T
  have k_nth_rest := F_nth_rest.kp
  have b_counted_4 := kbn0 (ps := [Str.ofString "rests", Str.ofString "modulus", Str.ofString "low", Str.ofString "high"]) F_counted 4 [] (fun us ws => [us.getD 0 .none, us.getD 1 .none, us.getD 2 .none, us.getD 3 .none]) (fun vs zs => [vs.getD 0 .non, vs.getD 1 .non, vs.getD 2 .non, vs.getD 3 .non]) (fun r1 r2 => (.cons (vals_getD r1 0) (.cons (vals_getD r1 1) (.cons (vals_getD r1 2) (.cons (vals_getD r1 3) .nil))))) fun _ _ _ _ _ _ us ws l1 l2 => match us, ws, l1, l2 with | [_, _, _, _], [], _, _ => rfl
  have b_nth_rest_4 := kbn0 (ps := [Str.ofString "rests", Str.ofString "modulus", Str.ofString "start", Str.ofString "at"]) F_nth_rest 4 [] (fun us ws => [us.getD 0 .none, us.getD 1 .none, us.getD 2 .none, us.getD 3 .none]) (fun vs zs => [vs.getD 0 .non, vs.getD 1 .non, vs.getD 2 .non, vs.getD 3 .non]) (fun r1 r2 => (.cons (vals_getD r1 0) (.cons (vals_getD r1 1) (.cons (vals_getD r1 2) (.cons (vals_getD r1 3) .nil))))) fun _ _ _ _ _ _ us ws l1 l2 => match us, ws, l1, l2 with | [_, _, _, _], [], _, _ => rfl
  have tk := takes_of (X := cxOf (L2.CX P w) P w K mg base [Str.ofString "lot", Str.ofString "low", Str.ofString "at", Str.ofString "modulus", Str.ofString "below", Str.ofString "first", Str.ofString "between", Str.ofString "last", Str.ofString "above", Str.ofString "many", Str.ofString "some", Str.ofString "one"] (Str.ofString "nth_of") (defScope s_nth_of) a cdv A outer s H E) rfl rfl rfl rfl
  have hp := passes_of (X := cxOf (L2.CX P w) P w K mg base [Str.ofString "lot", Str.ofString "low", Str.ofString "at", Str.ofString "modulus", Str.ofString "below", Str.ofString "first", Str.ofString "between", Str.ofString "last", Str.ofString "above", Str.ofString "many", Str.ofString "some", Str.ofString "one"] (Str.ofString "nth_of") (defScope s_nth_of) a cdv A outer s H E) rfl
  exact (ds_cons (ds_asg (dg_tup rfl (dgs_cons (dg_name (i := 3) sc_nth_of.nd (by rfl) (by first | exact Or.inl rfl | exact Or.inr rfl)) (dgs_cons (dg_name (i := 4) sc_nth_of.nd (by rfl) (by first | exact Or.inl rfl | exact Or.inr rfl)) (dgs_cons (dg_name (i := 5) sc_nth_of.nd (by rfl) (by first | exact Or.inl rfl | exact Or.inr rfl)) (dgs_cons (dg_name (i := 6) sc_nth_of.nd (by rfl) (by first | exact Or.inl rfl | exact Or.inr rfl)) (dgs_cons (dg_name (i := 7) sc_nth_of.nd (by rfl) (by first | exact Or.inl rfl | exact Or.inr rfl)) (dgs_cons (dg_name (i := 8) sc_nth_of.nd (by rfl) (by first | exact Or.inl rfl | exact Or.inr rfl)) dgs_nil))))))) (dv 0)) (ds_cons (ds_set (i := 9) sc_nth_of.nd (by rfl) (by first | exact Or.inl rfl | exact Or.inr rfl) (dv_of (de_call (gD := (fun ds es => [ds.getD 0 .non, ds.getD 1 .non, ds.getD 2 .non, ds.getD 3 .non])) tk G_counted (hr.mono (by decide)) (by rfl) m_counted k_counted b_counted_4 (fun _ _ _ _ _ _ h1 h2 => (Reps.cons (reps_getD h1 0) (Reps.cons (reps_getD h1 1) (Reps.cons (reps_getD h1 2) (Reps.cons (reps_getD h1 3) Reps.nil))))) (fun _ _ _ _ => rfl) (da_cons (dv 4) (da_cons (dv 3) (da_cons (dv 1) (da_cons (de_op op_sub opd_sub (dv 5) de_int) da_nil)))) dk_nil))) (ds_cons (ds_if (dt_cmp op_lt (opd_cmp _) (dv 2) (dv 9) (nomark _)) (ds_one (ds_ret (de_call (gD := (fun ds es => [ds.getD 0 .non, ds.getD 1 .non, ds.getD 2 .non, ds.getD 3 .non])) tk G_nth_rest (hr.mono (by decide)) (by rfl) m_nth_rest k_nth_rest b_nth_rest_4 (fun _ _ _ _ _ _ h1 h2 => (Reps.cons (reps_getD h1 0) (Reps.cons (reps_getD h1 1) (Reps.cons (reps_getD h1 2) (Reps.cons (reps_getD h1 3) Reps.nil))))) (fun _ _ _ _ => rfl) (da_cons (dv 4) (da_cons (dv 3) (da_cons (dv 1) (da_cons (dv 2) da_nil)))) dk_nil))) ds_nil) (ds_cons (ds_aug (i := 2) sc_nth_of.nd (by rfl) (by first | exact Or.inl rfl | exact Or.inr rfl) iop_sub opd_sub (dv 9)) (ds_cons (ds_setLc (i := 10) rfl sc_nth_of.nd (by rfl) (by rfl) (sw_true rfl rfl rfl (by decide +kernel)) (di_seq (dv 6)) (blkOk_by (N := [Str.ofString "lot", Str.ofString "low", Str.ofString "at", Str.ofString "modulus", Str.ofString "below", Str.ofString "first", Str.ofString "between", Str.ofString "last", Str.ofString "above", Str.ofString "many", Str.ofString "some", Str.ofString "one"]) (sc := defScope s_nth_of) (own := [(Str.ofString "one", 11)]) (by decide +kernel)) (fun _ _ _ _ _ => (dg_name (i := 11) sc_nth_of.nd (by rfl) (by first | exact Or.inl rfl | exact Or.inr rfl))) (fun _ _ _ _ _ => (dts_one (dt_cmp op_ge (opd_cmp _) (dv 11) (dv 1) (nomark _)))) (fun _ _ _ _ _ => (dv 11))) (ds_cons (ds_if (dt_cmp op_lt (opd_cmp _) (dv 2) (de_callB call_len cd_len (by rfl) T.z_len bt_len (da_cons (dv 10) da_nil)) (nomark _)) (ds_one (ds_ret (de_ix (dv 10) (dv 2)))) ds_nil) (ds_one (ds_ret (de_if (dt_truth (dv 8)) (de_call (gD := (fun ds es => [ds.getD 0 .non, ds.getD 1 .non, ds.getD 2 .non, ds.getD 3 .non])) tk G_nth_rest (hr.mono (by decide)) (by rfl) m_nth_rest k_nth_rest b_nth_rest_4 (fun _ _ _ _ _ _ h1 h2 => (Reps.cons (reps_getD h1 0) (Reps.cons (reps_getD h1 1) (Reps.cons (reps_getD h1 2) (Reps.cons (reps_getD h1 3) Reps.nil))))) (fun _ _ _ _ => rfl) (da_cons (dv 8) (da_cons (dv 3) (da_cons (de_callB (call_max2 rfl) cd_max (by rfl) T.z_max bt_max (da_cons (dv 1) (da_cons (dv 7) da_nil))) (da_cons (de_op op_sub opd_sub (dv 2) (de_callB call_len cd_len (by rfl) T.z_len bt_len (da_cons (dv 10) da_nil))) da_nil)))) dk_nil) de_non)))))))))
theorem sc_need_index : FnScope [Str.ofString "value"] [Str.ofString "value"] (defScope s_need_index) := ⟨rfl, rfl, rfl, by decide +kernel, rfl, by decide +kernel, by decide +kernel⟩
theorem ok_need_index (T : Txt K mg) : Ok P w K mg base 3 (Str.ofString "need_index") s_need_index [] [Str.ofString "value"] p_need_index := by
  obtain ⟨a, fd, F, m⟩ := T.f_need_index
  refine ⟨a, fd, F, m, fn_D (k := 2) F sc_need_index fun cdv A outer s H E hr => ?_⟩
  obtain ⟨a_is_below, fd_is_below, F_is_below, m_is_below, G_is_below⟩ := ok_is_below (P := P) (w := w) (base := base) T
  have k_is_below := F_is_below.kp
  have b_is_below_2 := kbn0 (ps := [Str.ofString "value", Str.ofString "limit"]) F_is_below 2 [] (fun us ws => [us.getD 0 .none, us.getD 1 .none]) (fun vs zs => [vs.getD 0 .non, vs.getD 1 .non]) (fun r1 r2 => (.cons (vals_getD r1 0) (.cons (vals_getD r1 1) .nil))) fun _ _ _ _ _ _ us ws l1 l2 => match us, ws, l1, l2 with | [_, _], [], _, _ => rfl
  have tk := takes_of (X := cxOf (L2.CX P w) P w K mg base [Str.ofString "value"] (Str.ofString "need_index") (defScope s_need_index) a cdv A outer s H E) rfl rfl rfl rfl
  have hp := passes_of (X := cxOf (L2.CX P w) P w K mg base [Str.ofString "value"] (Str.ofString "need_index") (defScope s_need_index) a cdv A outer s H E) rfl
  exact (ds_one (ds_if (dt_not (dt_truth (de_call (gD := (fun ds es => [ds.getD 0 .non, ds.getD 1 .non])) tk G_is_below (hr.mono (by decide)) (by rfl) m_is_below k_is_below b_is_below_2 (fun _ _ _ _ _ _ h1 h2 => (Reps.cons (reps_getD h1 0) (Reps.cons (reps_getD h1 1) Reps.nil))) (fun _ _ _ _ => rfl) (da_cons (dv 0) (da_cons (by obtain ⟨t, h⟩ := T.c_MOST_INDEX; exact de_glob (v := V.int 100000000000000000000000000000000000000000) (by rfl) h ⟨t, rfl⟩ fun _ _ => rfl) da_nil)) dk_nil))) (ds_one ds_never) ds_nil))
theorem sc_number_in : FnScope [Str.ofString "lot", Str.ofString "low", Str.ofString "at"] [Str.ofString "lot", Str.ofString "low", Str.ofString "at"] (defScope s_number_in) := ⟨rfl, rfl, rfl, by decide +kernel, rfl, by decide +kernel, by decide +kernel⟩
theorem ok_number_in (T : Txt K mg) : Ok P w K mg base 5 (Str.ofString "number_in") s_number_in [] [Str.ofString "lot", Str.ofString "low", Str.ofString "at"] p_number_in := by
  obtain ⟨a, fd, F, m⟩ := T.f_number_in
  refine ⟨a, fd, F, m, fn_D (k := 4) F sc_number_in fun cdv A outer s H E hr => ?_⟩
  obtain ⟨a_need_index, fd_need_index, F_need_index, m_need_index, G_need_index⟩ := ok_need_index (P := P) (w := w) (base := base) T
  have k_need_index := F_need_index.kp
  obtain ⟨a_need_lot, fd_need_lot, F_need_lot, m_need_lot, G_need_lot⟩ := ok_need_lot (P := P) (w := w) (base := base) T
  have k_need_lot := F_need_lot.kp
  obtain ⟨a_need_number, fd_need_number, F_need_number, m_need_number, G_need_number⟩ := ok_need_number (P := P) (w := w) (base := base) T
  have k_need_number := F_need_number.kp
  obtain ⟨a_nth_of, fd_nth_of, F_nth_of, m_nth_of, G_nth_of⟩ := ok_nth_of (P := P) (w := w) (base := base) T
  have k_nth_of := F_nth_of.kp
  obtain ⟨its_b_need_lot_1, b_need_lot_1⟩ := kbn1 (ps := [Str.ofString "value", Str.ofString "at"]) F_need_lot (by simp) 1 [] (fun us its ws => [us.getD 0 .none, its.getD 0 .none]) (fun vs ds zs => [vs.getD 0 .non, ds.getD 0 .non]) (fun r1 r2 r3 => (.cons (vals_getD r1 0) (.cons (vals_getD r2 0) .nil))) fun _ _ _ _ _ _ _ us its ws l1 l2 l3 => match us, its, ws, l1, l2, l3 with | [_], [_], [], _, _, _ => ⟨_, rfl, rfl⟩
  obtain ⟨its_b_need_number_1, b_need_number_1⟩ := kbn1 (ps := [Str.ofString "value", Str.ofString "at", Str.ofString "most"]) F_need_number (by simp) 1 [] (fun us its ws => [us.getD 0 .none, its.getD 0 .none, its.getD 1 .none]) (fun vs ds zs => [vs.getD 0 .non, ds.getD 0 .non, ds.getD 1 .non]) (fun r1 r2 r3 => (.cons (vals_getD r1 0) (.cons (vals_getD r2 0) (.cons (vals_getD r2 1) .nil)))) fun _ _ _ _ _ _ _ us its ws l1 l2 l3 => match us, its, ws, l1, l2, l3 with | [_], [_, _], [], _, _, _ => ⟨_, rfl, rfl⟩
  have b_need_index_1 := kbn0 (ps := [Str.ofString "value"]) F_need_index 1 [] (fun us ws => [us.getD 0 .none]) (fun vs zs => [vs.getD 0 .non]) (fun r1 r2 => (.cons (vals_getD r1 0) .nil)) fun _ _ _ _ _ _ us ws l1 l2 => match us, ws, l1, l2 with | [_], [], _, _ => rfl
  have b_nth_of_3 := kbn0 (ps := [Str.ofString "lot", Str.ofString "low", Str.ofString "at"]) F_nth_of 3 [] (fun us ws => [us.getD 0 .none, us.getD 1 .none, us.getD 2 .none]) (fun vs zs => [vs.getD 0 .non, vs.getD 1 .non, vs.getD 2 .non]) (fun r1 r2 => (.cons (vals_getD r1 0) (.cons (vals_getD r1 1) (.cons (vals_getD r1 2) .nil)))) fun _ _ _ _ _ _ us ws l1 l2 => match us, ws, l1, l2 with | [_, _, _], [], _, _ => rfl
  have tk := takes_of (X := cxOf (L2.CX P w) P w K mg base [Str.ofString "lot", Str.ofString "low", Str.ofString "at"] (Str.ofString "number_in") (defScope s_number_in) a cdv A outer s H E) rfl rfl rfl rfl
  have hp := passes_of (X := cxOf (L2.CX P w) P w K mg base [Str.ofString "lot", Str.ofString "low", Str.ofString "at"] (Str.ofString "number_in") (defScope s_number_in) a cdv A outer s H E) rfl
  exact (ds_cons (ds_expr (de_call (gD := (fun ds es => [ds.getD 0 .non, .int (-1)])) tk G_need_lot (hr.mono (by decide)) (by rfl) m_need_lot k_need_lot b_need_lot_1 (fun _ _ _ _ _ _ h1 h2 => (Reps.cons (reps_getD h1 0) (Reps.cons (show Rep _ _ _ (.int (-1)) _ from rfl) Reps.nil))) (fun _ _ _ _ => rfl) (da_cons (dv 0) da_nil) dk_nil)) (ds_cons (ds_expr (de_call (gD := (fun ds es => [ds.getD 0 .non, .int (-1), .int 10000000000000000000000000000000000000000])) tk G_need_number (hr.mono (by decide)) (by rfl) m_need_number k_need_number b_need_number_1 (fun _ _ _ _ _ _ h1 h2 => (Reps.cons (reps_getD h1 0) (Reps.cons (show Rep _ _ _ (.int (-1)) _ from rfl) (Reps.cons (show Rep _ _ _ (.int 10000000000000000000000000000000000000000) _ from rfl) Reps.nil)))) (fun _ _ _ _ => rfl) (da_cons (dv 1) da_nil) dk_nil)) (ds_cons (ds_expr (de_call (gD := (fun ds es => [ds.getD 0 .non])) tk G_need_index (hr.mono (by decide)) (by rfl) m_need_index k_need_index b_need_index_1 (fun _ _ _ _ _ _ h1 h2 => (Reps.cons (reps_getD h1 0) Reps.nil)) (fun _ _ _ _ => rfl) (da_cons (dv 2) da_nil) dk_nil)) (ds_one (ds_ret (de_call (gD := (fun ds es => [ds.getD 0 .non, ds.getD 1 .non, ds.getD 2 .non])) tk G_nth_of (hr.mono (by decide)) (by rfl) m_nth_of k_nth_of b_nth_of_3 (fun _ _ _ _ _ _ h1 h2 => (Reps.cons (reps_getD h1 0) (Reps.cons (reps_getD h1 1) (Reps.cons (reps_getD h1 2) Reps.nil)))) (fun _ _ _ _ => rfl) (da_cons (dv 0) (da_cons (dv 1) (da_cons (dv 2) da_nil))) dk_nil))))))
theorem sc_place_in : FnScope [Str.ofString "lot", Str.ofString "low", Str.ofString "number"] [Str.ofString "lot", Str.ofString "low", Str.ofString "number"] (defScope s_place_in) := ⟨rfl, rfl, rfl, by decide +kernel, rfl, by decide +kernel, by decide +kernel⟩
theorem ok_place_in (T : Txt K mg) : Ok P w K mg base 6 (Str.ofString "place_in") s_place_in [] [Str.ofString "lot", Str.ofString "low", Str.ofString "number"] p_place_in := by
  obtain ⟨a, fd, F, m⟩ := T.f_place_in
  refine ⟨a, fd, F, m, fn_D (k := 5) F sc_place_in fun cdv A outer s H E hr => ?_⟩
  obtain ⟨a_many_in, fd_many_in, F_many_in, m_many_in, G_many_in⟩ := ok_many_in (P := P) (w := w) (base := base) T
  have k_many_in := F_many_in.kp
  obtain ⟨a_need_stretch, fd_need_stretch, F_need_stretch, m_need_stretch, G_need_stretch⟩ := ok_need_stretch (P := P) (w := w) (base := base) T
  have k_need_stretch := F_need_stretch.kp
  have b_need_stretch_3 := kbn0 (ps := [Str.ofString "lot", Str.ofString "low", Str.ofString "high"]) F_need_stretch 3 [] (fun us ws => [us.getD 0 .none, us.getD 1 .none, us.getD 2 .none]) (fun vs zs => [vs.getD 0 .non, vs.getD 1 .non, vs.getD 2 .non]) (fun r1 r2 => (.cons (vals_getD r1 0) (.cons (vals_getD r1 1) (.cons (vals_getD r1 2) .nil)))) fun _ _ _ _ _ _ us ws l1 l2 => match us, ws, l1, l2 with | [_, _, _], [], _, _ => rfl
  have b_many_in_3 := kbn0 (ps := [Str.ofString "lot", Str.ofString "low", Str.ofString "high"]) F_many_in 3 [] (fun us ws => [us.getD 0 .none, us.getD 1 .none, us.getD 2 .none]) (fun vs zs => [vs.getD 0 .non, vs.getD 1 .non, vs.getD 2 .non]) (fun r1 r2 => (.cons (vals_getD r1 0) (.cons (vals_getD r1 1) (.cons (vals_getD r1 2) .nil)))) fun _ _ _ _ _ _ us ws l1 l2 => match us, ws, l1, l2 with | [_, _, _], [], _, _ => rfl
  have tk := takes_of (X := cxOf (L2.CX P w) P w K mg base [Str.ofString "lot", Str.ofString "low", Str.ofString "number"] (Str.ofString "place_in") (defScope s_place_in) a cdv A outer s H E) rfl rfl rfl rfl
  have hp := passes_of (X := cxOf (L2.CX P w) P w K mg base [Str.ofString "lot", Str.ofString "low", Str.ofString "number"] (Str.ofString "place_in") (defScope s_place_in) a cdv A outer s H E) rfl
  exact (ds_cons (ds_expr (de_call (gD := (fun ds es => [ds.getD 0 .non, ds.getD 1 .non, ds.getD 2 .non])) tk G_need_stretch (hr.mono (by decide)) (by rfl) m_need_stretch k_need_stretch b_need_stretch_3 (fun _ _ _ _ _ _ h1 h2 => (Reps.cons (reps_getD h1 0) (Reps.cons (reps_getD h1 1) (Reps.cons (reps_getD h1 2) Reps.nil)))) (fun _ _ _ _ => rfl) (da_cons (dv 0) (da_cons (dv 1) (da_cons (dv 2) da_nil))) dk_nil)) (ds_one (ds_ret (de_call (gD := (fun ds es => [ds.getD 0 .non, ds.getD 1 .non, ds.getD 2 .non])) tk G_many_in (hr.mono (by decide)) (by rfl) m_many_in k_many_in b_many_in_3 (fun _ _ _ _ _ _ h1 h2 => (Reps.cons (reps_getD h1 0) (Reps.cons (reps_getD h1 1) (Reps.cons (reps_getD h1 2) Reps.nil)))) (fun _ _ _ _ => rfl) (da_cons (dv 0) (da_cons (dv 1) (da_cons (de_op op_sub opd_sub (dv 2) de_int) da_nil))) dk_nil))))
theorem sc_summed : FnScope [Str.ofString "rests", Str.ofString "modulus", Str.ofString "low", Str.ofString "high", Str.ofString "found", Str.ofString "rest", Str.ofString "first", Str.ofString "last"] [Str.ofString "rests", Str.ofString "modulus", Str.ofString "low", Str.ofString "high"] (defScope s_summed) := ⟨rfl, rfl, rfl, by decide +kernel, rfl, by decide +kernel, by decide +kernel⟩
theorem ok_summed (T : Txt K mg) : Ok P w K mg base 1 (Str.ofString "summed") s_summed [] [Str.ofString "rests", Str.ofString "modulus", Str.ofString "low", Str.ofString "high"] p_summed := by
  obtain ⟨a, fd, F, m⟩ := T.f_summed
  refine ⟨a, fd, F, m, fn_D (k := 0) F sc_summed fun cdv A outer s H E hr => ?_⟩
  have tk := takes_of (X := cxOf (L2.CX P w) P w K mg base [Str.ofString "rests", Str.ofString "modulus", Str.ofString "low", Str.ofString "high", Str.ofString "found", Str.ofString "rest", Str.ofString "first", Str.ofString "last"] (Str.ofString "summed") (defScope s_summed) a cdv A outer s H E) rfl rfl rfl rfl
  have hp := passes_of (X := cxOf (L2.CX P w) P w K mg base [Str.ofString "rests", Str.ofString "modulus", Str.ofString "low", Str.ofString "high", Str.ofString "found", Str.ofString "rest", Str.ofString "first", Str.ofString "last"] (Str.ofString "summed") (defScope s_summed) a cdv A outer s H E) rfl
  exact (ds_cons (ds_set (i := 4) sc_summed.nd (by rfl) (by first | exact Or.inl rfl | exact Or.inr rfl) (dv_of de_int)) (ds_cons (ds_for hp rfl (di_seq (dv 0)) (dg_name (i := 5) sc_summed.nd (by rfl) (by first | exact Or.inl rfl | exact Or.inr rfl)) (ds_cons (ds_par (i := 6) (j := 7) rfl sc_summed.nd (by rfl) (by rfl) (by decide) (by rfl) (by rfl) (dv_of (de_op op_addA opd_add (dv 2) (de_op op_mod opd_mod (de_op op_sub opd_sub (dv 5) (dv 2)) (dv 1)))) (dv_of (de_op op_sub opd_sub (dv 3) (de_op op_mod opd_mod (de_op op_sub opd_sub (dv 3) (dv 5)) (dv 1)))) (by rfl)) (ds_one (ds_if (dt_cmp op_le (opd_cmp _) (dv 6) (dv 7) (nomark _)) (ds_one (ds_aug (i := 4) sc_summed.nd (by rfl) (by first | exact Or.inl rfl | exact Or.inr rfl) iop_add opd_addI (de_op op_fdivD opd_fdiv (de_op op_mulD opd_mul (de_op op_addA opd_add (dv 6) (dv 7)) (de_op op_addA opd_add (de_op op_fdivD opd_fdiv (de_op op_sub opd_sub (dv 7) (dv 6)) (dv 1)) de_int)) de_int))) ds_nil)))) (ds_one (ds_ret (dv 4)))))
theorem sc_sum_in : FnScope [Str.ofString "lot", Str.ofString "low", Str.ofString "high", Str.ofString "sides", Str.ofString "between", Str.ofString "side"] [Str.ofString "lot", Str.ofString "low", Str.ofString "high"] (defScope s_sum_in) := ⟨rfl, rfl, rfl, by decide +kernel, rfl, by decide +kernel, by decide +kernel⟩
theorem ok_sum_in (T : Txt K mg) : Ok P w K mg base 6 (Str.ofString "sum_in") s_sum_in [] [Str.ofString "lot", Str.ofString "low", Str.ofString "high"] p_sum_in := by
  obtain ⟨a, fd, F, m⟩ := T.f_sum_in
  refine ⟨a, fd, F, m, fn_D (k := 5) F sc_sum_in fun cdv A outer s H E hr => ?_⟩
  obtain ⟨a_need_stretch, fd_need_stretch, F_need_stretch, m_need_stretch, G_need_stretch⟩ := ok_need_stretch (P := P) (w := w) (base := base) T
  have k_need_stretch := F_need_stretch.kp
  obtain ⟨a_parts_of, fd_parts_of, F_parts_of, m_parts_of, G_parts_of⟩ := ok_parts_of (P := P) (w := w) (base := base) T
  have k_parts_of := F_parts_of.kp
  obtain ⟨a_summed, fd_summed, F_summed, m_summed, G_summed⟩ := ok_summed (P := P) (w := w) (base := base) T
  have k_summed := F_summed.kp
  have sb_summed : Binds K _ [Str.ofString "rests", Str.ofString "modulus", Str.ofString "low", Str.ofString "high"] [] := F_summed.bindsN fun _ _ _ _ _ _ us hl => match us, hl with | [_, _, _, _], _ => rfl
  have b_need_stretch_3 := kbn0 (ps := [Str.ofString "lot", Str.ofString "low", Str.ofString "high"]) F_need_stretch 3 [] (fun us ws => [us.getD 0 .none, us.getD 1 .none, us.getD 2 .none]) (fun vs zs => [vs.getD 0 .non, vs.getD 1 .non, vs.getD 2 .non]) (fun r1 r2 => (.cons (vals_getD r1 0) (.cons (vals_getD r1 1) (.cons (vals_getD r1 2) .nil)))) fun _ _ _ _ _ _ us ws l1 l2 => match us, ws, l1, l2 with | [_, _, _], [], _, _ => rfl
  have b_parts_of_3 := kbn0 (ps := [Str.ofString "lot", Str.ofString "low", Str.ofString "high"]) F_parts_of 3 [] (fun us ws => [us.getD 0 .none, us.getD 1 .none, us.getD 2 .none]) (fun vs zs => [vs.getD 0 .non, vs.getD 1 .non, vs.getD 2 .non]) (fun r1 r2 => (.cons (vals_getD r1 0) (.cons (vals_getD r1 1) (.cons (vals_getD r1 2) .nil)))) fun _ _ _ _ _ _ us ws l1 l2 => match us, ws, l1, l2 with | [_, _, _], [], _, _ => rfl
  have tk := takes_of (X := cxOf (L2.CX P w) P w K mg base [Str.ofString "lot", Str.ofString "low", Str.ofString "high", Str.ofString "sides", Str.ofString "between", Str.ofString "side"] (Str.ofString "sum_in") (defScope s_sum_in) a cdv A outer s H E) rfl rfl rfl rfl
  have hp := passes_of (X := cxOf (L2.CX P w) P w K mg base [Str.ofString "lot", Str.ofString "low", Str.ofString "high", Str.ofString "sides", Str.ofString "between", Str.ofString "side"] (Str.ofString "sum_in") (defScope s_sum_in) a cdv A outer s H E) rfl
  exact (ds_cons (ds_expr (de_call (gD := (fun ds es => [ds.getD 0 .non, ds.getD 1 .non, ds.getD 2 .non])) tk G_need_stretch (hr.mono (by decide)) (by rfl) m_need_stretch k_need_stretch b_need_stretch_3 (fun _ _ _ _ _ _ h1 h2 => (Reps.cons (reps_getD h1 0) (Reps.cons (reps_getD h1 1) (Reps.cons (reps_getD h1 2) Reps.nil)))) (fun _ _ _ _ => rfl) (da_cons (dv 0) (da_cons (dv 1) (da_cons (dv 2) da_nil))) dk_nil)) (ds_cons (ds_asg (dg_tup rfl (dgs_cons (dg_name (i := 3) sc_sum_in.nd (by rfl) (by first | exact Or.inl rfl | exact Or.inr rfl)) (dgs_cons (dg_name (i := 4) sc_sum_in.nd (by rfl) (by first | exact Or.inl rfl | exact Or.inr rfl)) dgs_nil))) (de_call (gD := (fun ds es => [ds.getD 0 .non, ds.getD 1 .non, ds.getD 2 .non])) tk G_parts_of (hr.mono (by decide)) (by rfl) m_parts_of k_parts_of b_parts_of_3 (fun _ _ _ _ _ _ h1 h2 => (Reps.cons (reps_getD h1 0) (Reps.cons (reps_getD h1 1) (Reps.cons (reps_getD h1 2) Reps.nil)))) (fun _ _ _ _ => rfl) (da_cons (dv 0) (da_cons (dv 1) (da_cons (dv 2) da_nil))) dk_nil)) (ds_one (ds_ret (de_op op_addA opd_add (de_callB (cr_sum rfl) cd_sum (by rfl) T.z_sum bt_sum (da_cons (dv 4) da_nil)) (de_callB (cr_sum rfl) cd_sum (by rfl) T.z_sum bt_sum (da_cons (de_lc rfl sc_sum_in.nd (di_seq (dv 3)) (blkOk_by (N := [Str.ofString "lot", Str.ofString "low", Str.ofString "high", Str.ofString "sides", Str.ofString "between", Str.ofString "side"]) (sc := defScope s_sum_in) (own := [(Str.ofString "side", 5)]) (by decide +kernel)) (fun _ _ _ _ _ => (dg_name (i := 5) sc_sum_in.nd (by rfl) (by first | exact Or.inl rfl | exact Or.inr rfl))) (fun _ _ _ _ _ => dts_nil) (fun _ _ _ _ _ => (de_star takes0 G_summed (hr.mono (by decide)) (by rfl) m_summed k_summed sb_summed (dv 5) (fun _ _ _ _ _ h => h)))) da_nil)))))))
end
end T79
set_option maxHeartbeats 4000000
namespace T79
open PySem PySem.Spec L2 DL
section
variable {P : Program} {w : World} {K : PySem.W.Frag} {mg : Str → Option Value} {base : Heap}
theorem sc__law_box : FnScope [Str.ofString "script", Str.ofString "salt", Str.ofString "rest", Str.ofString "state", Str.ofString "k", Str.ofString "cell", Str.ofString "size"] [Str.ofString "script", Str.ofString "salt"] (defScope s__law_box) := ⟨rfl, rfl, rfl, by decide +kernel, rfl, by decide +kernel, by decide +kernel⟩
theorem ok__law_box (T : Txt K mg) : Ok P w K mg base 1 (Str.ofString "_law_box") s__law_box [] [Str.ofString "script", Str.ofString "salt"] p__law_box := by
  obtain ⟨a, fd, F, m⟩ := T.f__law_box
  refine ⟨a, fd, F, m, fn_D (k := 0) F sc__law_box fun cdv A outer s H E hr => ?_⟩
  have tk := takes_of (X := cxOf (L2.CX P w) P w K mg base [Str.ofString "script", Str.ofString "salt", Str.ofString "rest", Str.ofString "state", Str.ofString "k", Str.ofString "cell", Str.ofString "size"] (Str.ofString "_law_box") (defScope s__law_box) a cdv A outer s H E) rfl rfl rfl rfl
  have hp := passes_of (X := cxOf (L2.CX P w) P w K mg base [Str.ofString "script", Str.ofString "salt", Str.ofString "rest", Str.ofString "state", Str.ofString "k", Str.ofString "cell", Str.ofString "size"] (Str.ofString "_law_box") (defScope s__law_box) a cdv A outer s H E) rfl
  exact (ds_cons (ds_par (i := 2) (j := 3) rfl sc__law_box.nd (by rfl) (by rfl) (by decide) (by rfl) (by rfl) (dv_lst da_nil) (dv_of (de_op op_addA opd_add de_int (de_op op_mulD opd_mul de_int (dv 1)))) (by rfl)) (ds_cons (ds_for hp rfl (di_enumA (by rfl) T.z_enumerate (da_cons (de_slice (dv 0) do_none (do_some de_int)) da_nil)) (dg_tup rfl (dgs_cons (dg_name (i := 4) sc__law_box.nd (by rfl) (by first | exact Or.inl rfl | exact Or.inr rfl)) (dgs_cons (dg_name (i := 5) sc__law_box.nd (by rfl) (by first | exact Or.inl rfl | exact Or.inr rfl)) dgs_nil))) (ds_cons (ds_set (i := 6) sc__law_box.nd (by rfl) (by first | exact Or.inl rfl | exact Or.inr rfl) (dv_of (de_op op_addA opd_add (de_op op_mulD opd_mul (de_callB call_abs cd_abs (by rfl) T.z_abs bt_abs (da_cons (dv 5) da_nil)) de_int) (de_callTy call_int1 cd_int (by rfl) T.z_int bt_int (da_cons (de_cmp op_lt (opd_cmp _) (dv 5) de_int (nomark _)) da_nil))))) (ds_cons (ds_if (dt_cmp op_ge (opd_cmp _) (de_callB call_abs cd_abs (by rfl) T.z_abs bt_abs (da_cons (dv 5) da_nil)) (de_op op_pow opd_pow de_int de_int) (nomark _)) (ds_one (ds_app (i := 2) (by rfl) (by first | exact Or.inl rfl | exact Or.inr (Or.inl rfl) | exact Or.inr (Or.inr rfl)) (de_callB call_abs cd_abs (by rfl) T.z_abs bt_abs (da_cons (dv 5) da_nil)) (hbm := fun h1 h2 => pe_bm PySem.F.plainAttrs_list PySem.F.slot_list_append PySem.F.type_list_append mt_append h1 h2))) ds_nil) (ds_one (ds_set (i := 3) sc__law_box.nd (by rfl) (by first | exact Or.inl rfl | exact Or.inr rfl) (dv_of (de_op op_addA opd_add (de_op op_mod opd_mod (de_callTy call_int1 cd_int (by rfl) T.z_int bt_int (da_cons (de_op op_addA opd_add (de_op op_addA opd_add (de_op op_mulD opd_mul (dv 3) de_int) (de_op op_mulD opd_mul (de_op op_mod opd_mod (de_callTy call_int1 cd_int (by rfl) T.z_int bt_int (da_cons (dv 6) da_nil)) de_int) (de_op op_addA opd_add (de_op op_mulD opd_mul de_int (dv 4)) de_int))) de_int) da_nil)) de_int) de_int))))))) (ds_one (ds_frz 2 (ds_ret (de_newL (da_cons (dv 2) (da_cons (dv 3) da_nil))))))))
theorem sc__law_take : FnScope [Str.ofString "box", Str.ofString "many", Str.ofString "cell"] [Str.ofString "box", Str.ofString "many"] (defScope s__law_take) := ⟨rfl, rfl, rfl, by decide +kernel, rfl, by decide +kernel, by decide +kernel⟩
theorem ok__law_take (T : Txt K mg) : Ok P w K mg base 1 (Str.ofString "_law_take") s__law_take [] [Str.ofString "box", Str.ofString "many"] p__law_take := by
  obtain ⟨a, fd, F, m⟩ := T.f__law_take
  refine ⟨a, fd, F, m, fn_D (k := 0) F sc__law_take fun cdv A outer s H E hr => ?_⟩
  have tk := takes_of (X := cxOf (L2.CX P w) P w K mg base [Str.ofString "box", Str.ofString "many", Str.ofString "cell"] (Str.ofString "_law_take") (defScope s__law_take) a cdv A outer s H E) rfl rfl rfl rfl
  have hp := passes_of (X := cxOf (L2.CX P w) P w K mg base [Str.ofString "box", Str.ofString "many", Str.ofString "cell"] (Str.ofString "_law_take") (defScope s__law_take) a cdv A outer s H E) rfl
  exact (ds_cons (ds_if (dt_cmp (op_neD hr.units) opd_ne (de_ix (dv 0) de_int) (de_lst da_nil) (nomark _)) (ds_cons (ds_set (i := 2) sc__law_take.nd (by rfl) (by first | exact Or.inl rfl | exact Or.inr rfl) (dv_of (de_ix (de_ix (dv 0) de_int) de_int))) (ds_cons (ds_setSto (dv 0) de_int (de_op op_addA opd_add (de_if (dt_cmp op_ge (opd_cmp _) (dv 2) (dv 1) (nomark _)) (de_lst (da_cons (de_op op_fdivD opd_fdiv (dv 2) (dv 1)) da_nil)) (de_lst da_nil)) (de_slice (de_ix (dv 0) de_int) (do_some de_int) do_none)) (has := fun h1 h2 h3 => ps_asg h1 (pg_sub h2 h3 set_list))) (ds_one (ds_ret (de_op op_mod opd_mod (de_callTy call_int1 cd_int (by rfl) T.z_int bt_int (da_cons (dv 2) da_nil)) (dv 1)))))) ds_nil) (ds_cons (ds_setSto (dv 0) de_int (de_op op_mod opd_mod (de_callTy call_int1 cd_int (by rfl) T.z_int bt_int (da_cons (de_op op_mulD opd_mul (de_ix (dv 0) de_int) de_int) da_nil)) de_int) (has := fun h1 h2 h3 => ps_asg h1 (pg_sub h2 h3 set_list))) (ds_one (ds_ret (de_op op_mod opd_mod (de_callTy call_int1 cd_int (by rfl) T.z_int bt_int (da_cons (de_op op_fdivD opd_fdiv (de_op op_addA opd_add (de_op op_mulD opd_mul (de_ix (dv 0) de_int) de_int) de_int) de_int) da_nil)) (dv 1))))))
theorem sc__law_pick : FnScope [Str.ofString "box", Str.ofString "some"] [Str.ofString "box", Str.ofString "some"] (defScope s__law_pick) := ⟨rfl, rfl, rfl, by decide +kernel, rfl, by decide +kernel, by decide +kernel⟩
theorem ok__law_pick (T : Txt K mg) : Ok P w K mg base 2 (Str.ofString "_law_pick") s__law_pick [] [Str.ofString "box", Str.ofString "some"] p__law_pick := by
  obtain ⟨a, fd, F, m⟩ := T.f__law_pick
  refine ⟨a, fd, F, m, fn_D (k := 1) F sc__law_pick fun cdv A outer s H E hr => ?_⟩
  obtain ⟨a__law_take, fd__law_take, F__law_take, m__law_take, G__law_take⟩ := ok__law_take (P := P) (w := w) (base := base) T
  have k__law_take := F__law_take.kp
  have b__law_take_2 := kbn0 (ps := [Str.ofString "box", Str.ofString "many"]) F__law_take 2 [] (fun us ws => [us.getD 0 .none, us.getD 1 .none]) (fun vs zs => [vs.getD 0 .non, vs.getD 1 .non]) (fun r1 r2 => (.cons (vals_getD r1 0) (.cons (vals_getD r1 1) .nil))) fun _ _ _ _ _ _ us ws l1 l2 => match us, ws, l1, l2 with | [_, _], [], _, _ => rfl
  have tk := takes_of (X := cxOf (L2.CX P w) P w K mg base [Str.ofString "box", Str.ofString "some"] (Str.ofString "_law_pick") (defScope s__law_pick) a cdv A outer s H E) rfl rfl rfl rfl
  have hp := passes_of (X := cxOf (L2.CX P w) P w K mg base [Str.ofString "box", Str.ofString "some"] (Str.ofString "_law_pick") (defScope s__law_pick) a cdv A outer s H E) rfl
  exact (ds_one (ds_ret (de_ix (dv 1) (de_call (gD := (fun ds es => [ds.getD 0 .non, ds.getD 1 .non])) tk G__law_take (hr.mono (by first | decide | omega)) (by rfl) m__law_take k__law_take b__law_take_2 (fun _ _ _ _ _ _ h1 h2 => (Reps.cons (reps_getD h1 0) (Reps.cons (reps_getD h1 1) Reps.nil))) (fun _ _ _ _ => rfl) (da_cons (dv 0) (da_cons (de_callB call_len cd_len (by rfl) T.z_len bt_len (da_cons (dv 1) da_nil)) da_nil)) dk_nil))))
theorem sc__law_is : FnScope [Str.ofString "told", Str.ofString "due", Str.ofString "one", Str.ofString "other"] [Str.ofString "told", Str.ofString "due"] (defScope s__law_is) := ⟨rfl, rfl, rfl, by decide +kernel, rfl, by decide +kernel, by decide +kernel⟩
theorem ok__law_is (T : Txt K mg) (n : Nat) : Ok P w K mg base (1 + n) (Str.ofString "_law_is") s__law_is [] [Str.ofString "told", Str.ofString "due"] (p__law_is n) := by
  obtain ⟨a, fd, F, m⟩ := T.f__law_is
  refine ⟨a, fd, F, m, ?_⟩
  induction n with
  | zero => exact fn_stuck
  | succ n ih =>
    have ih' : FnOk P w K mg base (L2.CX P w) (1 + n) a fd [Str.ofString "told", Str.ofString "due"] (spD K 2 (p__law_is n)) := ih
    refine (fn_D (k := 1 + n) F sc__law_is fun cdv A outer s H E hr => ?_).mono (by omega)
    have G__law_is := ih'
    have F__law_is := F
    have m__law_is := m
    have k__law_is := F.kp
    have b__law_is_2 := kbn0 (ps := [Str.ofString "told", Str.ofString "due"]) F__law_is 2 [] (fun us ws => [us.getD 0 .none, us.getD 1 .none]) (fun vs zs => [vs.getD 0 .non, vs.getD 1 .non]) (fun r1 r2 => (.cons (vals_getD r1 0) (.cons (vals_getD r1 1) .nil))) fun _ _ _ _ _ _ us ws l1 l2 => match us, ws, l1, l2 with | [_, _], [], _, _ => rfl
    have tk := takes_of (X := cxOf (L2.CX P w) P w K mg base [Str.ofString "told", Str.ofString "due", Str.ofString "one", Str.ofString "other"] (Str.ofString "_law_is") (defScope s__law_is) a cdv A outer s H E) rfl rfl rfl rfl
    have hp := passes_of (X := cxOf (L2.CX P w) P w K mg base [Str.ofString "told", Str.ofString "due", Str.ofString "one", Str.ofString "other"] (Str.ofString "_law_is") (defScope s__law_is) a cdv A outer s H E) rfl
    exact (ds_cons (ds_if (dt_truth (de_callB call_isiA cd_isi (by rfl) T.z_isinstance bt_isinstance (da_cons (dv 1) (da_cons (de_ty (by rfl) T.z_tuple bt_tuple) da_nil)))) (ds_cons (ds_if (dt_w (dw_or (dt_not (dt_truth (de_callB call_isiA cd_isi (by rfl) T.z_isinstance bt_isinstance (da_cons (dv 0) (da_cons (de_ty (by rfl) T.z_tuple bt_tuple) da_nil))))) (dw_or1 (dt_cmp (op_neD hr.units) opd_ne (de_callB call_len cd_len (by rfl) T.z_len bt_len (da_cons (dv 0) da_nil)) (de_callB call_len cd_len (by rfl) T.z_len bt_len (da_cons (dv 1) da_nil)) (nomark _))))) (ds_one (ds_ret de_bl)) ds_nil) (ds_one (ds_ret (de_cmp (op_eqD hr.units) opd_eq (de_lc rfl sc__law_is.nd (di_zip (by rfl) T.z_zip (da_cons (dv 0) (da_cons (dv 1) da_nil))) (blkOk_by (N := [Str.ofString "told", Str.ofString "due", Str.ofString "one", Str.ofString "other"]) (sc := defScope s__law_is) (own := [(Str.ofString "one", 2), (Str.ofString "other", 3)]) (by decide +kernel)) (fun _ _ _ _ _ => (dg_tup rfl (dgs_cons (dg_name (i := 2) sc__law_is.nd (by rfl) (by first | exact Or.inl rfl | exact Or.inr rfl)) (dgs_cons (dg_name (i := 3) sc__law_is.nd (by rfl) (by first | exact Or.inl rfl | exact Or.inr rfl)) dgs_nil)))) (fun _ _ _ _ _ => (dts_one (dt_not (dt_truth (de_call (gD := (fun ds es => [ds.getD 0 .non, ds.getD 1 .non])) takes0 G__law_is (hr.mono (by first | decide | omega)) (by rfl) m__law_is k__law_is b__law_is_2 (fun _ _ _ _ _ _ h1 h2 => (Reps.cons (reps_getD h1 0) (Reps.cons (reps_getD h1 1) Reps.nil))) (fun _ _ _ _ => rfl) (da_cons (dv 2) (da_cons (dv 3) da_nil)) dk_nil))))) (fun _ _ _ _ _ => de_int)) (de_lst da_nil) (nomark _))))) ds_nil) (ds_cons (ds_if (dt_w (dw_or (dt_cmp op_isC opd_is (dv 1) de_non (nomark _)) (dw_or (dt_cmp op_isC opd_is (dv 1) de_bl (nomark _)) (dw_or1 (dt_cmp op_isC opd_is (dv 1) de_bl (nomark _)))))) (ds_one (ds_ret (de_if (dt_cmp op_isC opd_is (dv 1) de_non (nomark _)) (de_cmp op_isC opd_is (dv 0) de_non (nomark _)) (de_if (dt_cmp op_isC opd_is (dv 1) de_bl (nomark _)) (de_cmp op_isC opd_is (dv 0) de_bl (nomark _)) (de_cmp op_isC opd_is (dv 0) de_bl (nomark _)))))) ds_nil) (ds_cons (ds_if (dt_truth (de_callB call_isiA cd_isi (by rfl) T.z_isinstance bt_isinstance (da_cons (dv 1) (da_cons (de_ty (by rfl) T.z_int bt_int) da_nil)))) (ds_one (ds_ret (de_and (de_callB call_isiA cd_isi (by rfl) T.z_isinstance bt_isinstance (da_cons (dv 0) (da_cons (de_ty (by rfl) T.z_int bt_int) da_nil))) (de_and (de_not (de_callB call_isiA cd_isi (by rfl) T.z_isinstance bt_isinstance (da_cons (dv 0) (da_cons (de_ty (by rfl) T.z_bool bt_bool) da_nil)))) (de_one (de_cmp (op_eqD hr.units) opd_eq (dv 0) (dv 1) (nomark _))))))) ds_nil) (ds_one (ds_ret (de_and (de_callB call_isiA cd_isi (by rfl) T.z_isinstance bt_isinstance (da_cons (dv 1) (da_cons (de_ty (by rfl) T.z_str bt_str) da_nil))) (de_and (de_callB call_isiA cd_isi (by rfl) T.z_isinstance bt_isinstance (da_cons (dv 0) (da_cons (de_ty (by rfl) T.z_str bt_str) da_nil))) (de_one (de_cmp (op_eqD hr.units) opd_eq (dv 0) (dv 1) (nomark _))))))))))
theorem sc__law_int : FnScope [Str.ofString "one"] [Str.ofString "one"] (defScope s__law_int) := ⟨rfl, rfl, rfl, by decide +kernel, rfl, by decide +kernel, by decide +kernel⟩
theorem ok__law_int (T : Txt K mg) : Ok P w K mg base 1 (Str.ofString "_law_int") s__law_int [] [Str.ofString "one"] p__law_int := by
  obtain ⟨a, fd, F, m⟩ := T.f__law_int
  refine ⟨a, fd, F, m, fn_D (k := 0) F sc__law_int fun cdv A outer s H E hr => ?_⟩
  have tk := takes_of (X := cxOf (L2.CX P w) P w K mg base [Str.ofString "one"] (Str.ofString "_law_int") (defScope s__law_int) a cdv A outer s H E) rfl rfl rfl rfl
  have hp := passes_of (X := cxOf (L2.CX P w) P w K mg base [Str.ofString "one"] (Str.ofString "_law_int") (defScope s__law_int) a cdv A outer s H E) rfl
  exact (ds_one (ds_ret (de_and (de_callB call_isiA cd_isi (by rfl) T.z_isinstance bt_isinstance (da_cons (dv 0) (da_cons (de_ty (by rfl) T.z_int bt_int) da_nil))) (de_one (de_not (de_callB call_isiA cd_isi (by rfl) T.z_isinstance bt_isinstance (da_cons (dv 0) (da_cons (de_ty (by rfl) T.z_bool bt_bool) da_nil))))))))
theorem sc__law_has : FnScope [Str.ofString "lot", Str.ofString "number"] [Str.ofString "lot", Str.ofString "number"] (defScope s__law_has) := ⟨rfl, rfl, rfl, by decide +kernel, rfl, by decide +kernel, by decide +kernel⟩
theorem ok__law_has (T : Txt K mg) : Ok P w K mg base 1 (Str.ofString "_law_has") s__law_has [] [Str.ofString "lot", Str.ofString "number"] p__law_has := by
  obtain ⟨a, fd, F, m⟩ := T.f__law_has
  refine ⟨a, fd, F, m, fn_D (k := 0) F sc__law_has fun cdv A outer s H E hr => ?_⟩
  have tk := takes_of (X := cxOf (L2.CX P w) P w K mg base [Str.ofString "lot", Str.ofString "number"] (Str.ofString "_law_has") (defScope s__law_has) a cdv A outer s H E) rfl rfl rfl rfl
  have hp := passes_of (X := cxOf (L2.CX P w) P w K mg base [Str.ofString "lot", Str.ofString "number"] (Str.ofString "_law_has") (defScope s__law_has) a cdv A outer s H E) rfl
  exact (ds_cons (ds_if (dt_cmp op_lt (opd_cmp _) (dv 1) (de_ix (dv 0) de_int) (nomark _)) (ds_one (ds_ret (de_cmp op_in_seq opd_in (de_op op_mod opd_mod (dv 1) (de_callTy call_int1 cd_int (by rfl) T.z_int bt_int (da_cons (de_ix (dv 0) de_int) da_nil))) (de_ix (dv 0) de_int) (by rfl)))) ds_nil) (ds_one (ds_ret (de_if (dt_cmp op_lt (opd_cmp _) (dv 1) (de_ix (dv 0) de_int) (nomark _)) (de_cmp op_in_seq opd_in (dv 1) (de_ix (dv 0) de_int) (by rfl)) (de_cmp op_in_seq opd_in (de_op op_mod opd_mod (dv 1) (de_callTy call_int1 cd_int (by rfl) T.z_int bt_int (da_cons (de_ix (dv 0) de_int) da_nil))) (de_ix (dv 0) de_int) (by rfl))))))
theorem sc__law_drawn_lot : FnScope [Str.ofString "box", Str.ofString "far", Str.ofString "modulus", Str.ofString "sides", Str.ofString "turn", Str.ofString "way", Str.ofString "rests", Str.ofString "low", Str.ofString "high", Str.ofString "share", Str.ofString "between", Str.ofString "rest", Str.ofString "number"] [Str.ofString "box", Str.ofString "far"] (defScope s__law_drawn_lot) := ⟨rfl, rfl, rfl, by decide +kernel, rfl, by decide +kernel, by decide +kernel⟩
theorem ok__law_drawn_lot (T : Txt K mg) : Ok P w K mg base 3 (Str.ofString "_law_drawn_lot") s__law_drawn_lot [] [Str.ofString "box", Str.ofString "far"] p__law_drawn_lot := by
  obtain ⟨a, fd, F, m⟩ := T.f__law_drawn_lot
  refine ⟨a, fd, F, m, fn_D (k := 2) F sc__law_drawn_lot fun cdv A outer s H E hr => ?_⟩
  obtain ⟨a__law_pick, fd__law_pick, F__law_pick, m__law_pick, G__law_pick⟩ := ok__law_pick (P := P) (w := w) (base := base) T
  have k__law_pick := F__law_pick.kp
  obtain ⟨a__law_take, fd__law_take, F__law_take, m__law_take, G__law_take⟩ := ok__law_take (P := P) (w := w) (base := base) T
  have k__law_take := F__law_take.kp
  have b__law_pick_2 := kbn0 (ps := [Str.ofString "box", Str.ofString "some"]) F__law_pick 2 [] (fun us ws => [us.getD 0 .none, us.getD 1 .none]) (fun vs zs => [vs.getD 0 .non, vs.getD 1 .non]) (fun r1 r2 => (.cons (vals_getD r1 0) (.cons (vals_getD r1 1) .nil))) fun _ _ _ _ _ _ us ws l1 l2 => match us, ws, l1, l2 with | [_, _], [], _, _ => rfl
  have b__law_take_2 := kbn0 (ps := [Str.ofString "box", Str.ofString "many"]) F__law_take 2 [] (fun us ws => [us.getD 0 .none, us.getD 1 .none]) (fun vs zs => [vs.getD 0 .non, vs.getD 1 .non]) (fun r1 r2 => (.cons (vals_getD r1 0) (.cons (vals_getD r1 1) .nil))) fun _ _ _ _ _ _ us ws l1 l2 => match us, ws, l1, l2 with | [_, _], [], _, _ => rfl
  have tk := takes_of (X := cxOf (L2.CX P w) P w K mg base [Str.ofString "box", Str.ofString "far", Str.ofString "modulus", Str.ofString "sides", Str.ofString "turn", Str.ofString "way", Str.ofString "rests", Str.ofString "low", Str.ofString "high", Str.ofString "share", Str.ofString "between", Str.ofString "rest", Str.ofString "number"] (Str.ofString "_law_drawn_lot") (defScope s__law_drawn_lot) a cdv A outer s H E) rfl rfl rfl rfl
  have hp := passes_of (X := cxOf (L2.CX P w) P w K mg base [Str.ofString "box", Str.ofString "far", Str.ofString "modulus", Str.ofString "sides", Str.ofString "turn", Str.ofString "way", Str.ofString "rests", Str.ofString "low", Str.ofString "high", Str.ofString "share", Str.ofString "between", Str.ofString "rest", Str.ofString "number"] (Str.ofString "_law_drawn_lot") (defScope s__law_drawn_lot) a cdv A outer s H E) rfl
  exact (ds_cons (ds_set (i := 2) sc__law_drawn_lot.nd (by rfl) (by first | exact Or.inl rfl | exact Or.inr rfl) (dv_of (de_call (gD := (fun ds es => [ds.getD 0 .non, ds.getD 1 .non])) tk G__law_pick (hr.mono (by first | decide | omega)) (by rfl) m__law_pick k__law_pick b__law_pick_2 (fun _ _ _ _ _ _ h1 h2 => (Reps.cons (reps_getD h1 0) (Reps.cons (reps_getD h1 1) Reps.nil))) (fun _ _ _ _ => rfl) (da_cons (dv 0) (da_cons (de_lst (da_cons de_int (da_cons de_int (da_cons de_int (da_cons de_int (da_cons de_int (da_cons de_int (da_cons de_int (da_cons de_int (da_cons de_int (da_cons de_int (da_cons de_int (da_cons de_int (da_cons de_int (da_cons de_int (da_cons de_int (da_cons de_int (da_cons de_int (da_cons de_int (da_cons de_int (da_cons de_int da_nil))))))))))))))))))))) da_nil)) dk_nil))) (ds_cons (ds_set (i := 3) sc__law_drawn_lot.nd (by rfl) (by first | exact Or.inl rfl | exact Or.inr rfl) (dv_lst da_nil)) (ds_cons (ds_for hp rfl (di_range1 (by rfl) T.z_range (da_cons de_int da_nil)) (dg_name (i := 4) sc__law_drawn_lot.nd (by rfl) (by first | exact Or.inl rfl | exact Or.inr rfl)) (ds_cons (ds_set (i := 5) sc__law_drawn_lot.nd (by rfl) (by first | exact Or.inl rfl | exact Or.inr rfl) (dv_of (de_call (gD := (fun ds es => [ds.getD 0 .non, ds.getD 1 .non])) tk G__law_take (hr.mono (by first | decide | omega)) (by rfl) m__law_take k__law_take b__law_take_2 (fun _ _ _ _ _ _ h1 h2 => (Reps.cons (reps_getD h1 0) (Reps.cons (reps_getD h1 1) Reps.nil))) (fun _ _ _ _ => rfl) (da_cons (dv 0) (da_cons de_int da_nil)) dk_nil))) (ds_cons (ds_setLc (i := 6) rfl sc__law_drawn_lot.nd (by rfl) (by rfl) (sw_true rfl rfl rfl (by decide +kernel)) (di_range1 (by rfl) T.z_range (da_cons (dv 2) da_nil)) (blkOk_by (N := [Str.ofString "box", Str.ofString "far", Str.ofString "modulus", Str.ofString "sides", Str.ofString "turn", Str.ofString "way", Str.ofString "rests", Str.ofString "low", Str.ofString "high", Str.ofString "share", Str.ofString "between", Str.ofString "rest", Str.ofString "number"]) (sc := defScope s__law_drawn_lot) (own := [(Str.ofString "rest", 11)]) (by decide +kernel)) (fun _ _ _ _ _ => (dg_name (i := 11) sc__law_drawn_lot.nd (by rfl) (by first | exact Or.inl rfl | exact Or.inr rfl))) (fun _ _ _ _ _ => (dts_one (dt_cmp (op_eqD hr.units) opd_eq (de_call (gD := (fun ds es => [ds.getD 0 .non, ds.getD 1 .non])) takes0 G__law_take (hr.mono (by first | decide | omega)) (by rfl) m__law_take k__law_take b__law_take_2 (fun _ _ _ _ _ _ h1 h2 => (Reps.cons (reps_getD h1 0) (Reps.cons (reps_getD h1 1) Reps.nil))) (fun _ _ _ _ => rfl) (da_cons (dv 0) (da_cons de_int da_nil)) dk_nil) de_int (nomark _)))) (fun _ _ _ _ _ => (dv 11))) (ds_one (ds_app (i := 3) (by rfl) (by first | exact Or.inl rfl | exact Or.inr (Or.inl rfl) | exact Or.inr (Or.inr rfl)) (de_callTy call_tuple_of cd_tuple (by rfl) T.z_tuple bt_tuple (da_cons (de_if (dt_cmp op_gt (opd_cmp _) (dv 5) de_int (nomark _)) (dv 6) (de_if (dt_cmp (op_eqD hr.units) opd_eq (dv 5) de_int (nomark _)) (de_listRg rfl (by rfl) T.z_list (by rfl) T.z_range (dv 2)) (de_lst da_nil))) da_nil)) (hbm := fun h1 h2 => pe_bm PySem.F.plainAttrs_list PySem.F.slot_list_append PySem.F.type_list_append mt_append h1 h2)))))) (ds_cons (ds_if (dt_cmp (op_eqD hr.units) opd_eq (de_call (gD := (fun ds es => [ds.getD 0 .non, ds.getD 1 .non])) tk G__law_take (hr.mono (by first | decide | omega)) (by rfl) m__law_take k__law_take b__law_take_2 (fun _ _ _ _ _ _ h1 h2 => (Reps.cons (reps_getD h1 0) (Reps.cons (reps_getD h1 1) Reps.nil))) (fun _ _ _ _ => rfl) (da_cons (dv 0) (da_cons de_int da_nil)) dk_nil) de_int (nomark _)) (ds_one (ds_setOwn (i := 3) (by rfl) (by first | exact Or.inl rfl | exact Or.inr (Or.inl rfl) | exact Or.inr (Or.inr rfl)) de_int (de_ixOwn (i := 3) (by rfl) (by first | exact Or.inl rfl | exact Or.inr (Or.inl rfl) | exact Or.inr (Or.inr rfl)) de_int) (has := fun h1 h2 h3 => ps_asg h1 (pg_sub h2 h3 set_list)))) ds_nil) (ds_cons (ds_frz 3 (ds_set (i := 7) sc__law_drawn_lot.nd (by rfl) (by first | exact Or.inl rfl | exact Or.inr rfl) (dv_of (de_op op_sub opd_sub (de_call (gD := (fun ds es => [ds.getD 0 .non, ds.getD 1 .non])) tk G__law_take (hr.mono (by first | decide | omega)) (by rfl) m__law_take k__law_take b__law_take_2 (fun _ _ _ _ _ _ h1 h2 => (Reps.cons (reps_getD h1 0) (Reps.cons (reps_getD h1 1) Reps.nil))) (fun _ _ _ _ => rfl) (da_cons (dv 0) (da_cons (de_op op_addA opd_add (de_op op_mulD opd_mul de_int (dv 1)) de_int) da_nil)) dk_nil) (dv 1))))) (ds_cons (ds_set (i := 8) sc__law_drawn_lot.nd (by rfl) (by first | exact Or.inl rfl | exact Or.inr rfl) (dv_of (de_op op_addA opd_add (dv 7) (de_call (gD := (fun ds es => [ds.getD 0 .non, ds.getD 1 .non])) tk G__law_take (hr.mono (by first | decide | omega)) (by rfl) m__law_take k__law_take b__law_take_2 (fun _ _ _ _ _ _ h1 h2 => (Reps.cons (reps_getD h1 0) (Reps.cons (reps_getD h1 1) Reps.nil))) (fun _ _ _ _ => rfl) (da_cons (dv 0) (da_cons (de_call (gD := (fun ds es => [ds.getD 0 .non, ds.getD 1 .non])) tk G__law_pick (hr.mono (by first | decide | omega)) (by rfl) m__law_pick k__law_pick b__law_pick_2 (fun _ _ _ _ _ _ h1 h2 => (Reps.cons (reps_getD h1 0) (Reps.cons (reps_getD h1 1) Reps.nil))) (fun _ _ _ _ => rfl) (da_cons (dv 0) (da_cons (de_lst (da_cons de_int (da_cons de_int (da_cons de_int (da_cons de_int da_nil))))) da_nil)) dk_nil) da_nil)) dk_nil)))) (ds_cons (ds_set (i := 9) sc__law_drawn_lot.nd (by rfl) (by first | exact Or.inl rfl | exact Or.inr rfl) (dv_of (de_call (gD := (fun ds es => [ds.getD 0 .non, ds.getD 1 .non])) tk G__law_take (hr.mono (by first | decide | omega)) (by rfl) m__law_take k__law_take b__law_take_2 (fun _ _ _ _ _ _ h1 h2 => (Reps.cons (reps_getD h1 0) (Reps.cons (reps_getD h1 1) Reps.nil))) (fun _ _ _ _ => rfl) (da_cons (dv 0) (da_cons de_int da_nil)) dk_nil))) (ds_cons (ds_set (i := 10) sc__law_drawn_lot.nd (by rfl) (by first | exact Or.inl rfl | exact Or.inr rfl) (dv_of (de_callTy call_tuple_of cd_tuple (by rfl) T.z_tuple bt_tuple (da_cons (de_lc rfl sc__law_drawn_lot.nd (di_rangeB (by rfl) T.z_range (da_cons (dv 7) (da_cons (dv 8) da_nil))) (blkOk_by (N := [Str.ofString "box", Str.ofString "far", Str.ofString "modulus", Str.ofString "sides", Str.ofString "turn", Str.ofString "way", Str.ofString "rests", Str.ofString "low", Str.ofString "high", Str.ofString "share", Str.ofString "between", Str.ofString "rest", Str.ofString "number"]) (sc := defScope s__law_drawn_lot) (own := [(Str.ofString "number", 12)]) (by decide +kernel)) (fun _ _ _ _ _ => (dg_name (i := 12) sc__law_drawn_lot.nd (by rfl) (by first | exact Or.inl rfl | exact Or.inr rfl))) (fun _ _ _ _ _ => (dts_one (dt_cmp op_le (opd_cmp _) (de_call (gD := (fun ds es => [ds.getD 0 .non, ds.getD 1 .non])) takes0 G__law_take (hr.mono (by first | decide | omega)) (by rfl) m__law_take k__law_take b__law_take_2 (fun _ _ _ _ _ _ h1 h2 => (Reps.cons (reps_getD h1 0) (Reps.cons (reps_getD h1 1) Reps.nil))) (fun _ _ _ _ => rfl) (da_cons (dv 0) (da_cons de_int da_nil)) dk_nil) (dv 9) (nomark _)))) (fun _ _ _ _ _ => (dv 12))) da_nil)))) (ds_one (ds_ret (de_tup (da_cons (dv 2) (da_cons (de_ix (dv 3) de_int) (da_cons (dv 7) (da_cons (dv 10) (da_cons (dv 8) (da_cons (de_ix (dv 3) de_int) da_nil)))))))))))))))))
theorem sc__law_other_form : FnScope [Str.ofString "box", Str.ofString "lot", Str.ofString "modulus", Str.ofString "low", Str.ofString "high", Str.ofString "below", Str.ofString "above", Str.ofString "rest", Str.ofString "number"] [Str.ofString "box", Str.ofString "lot"] (defScope s__law_other_form) := ⟨rfl, rfl, rfl, by decide +kernel, rfl, by decide +kernel, by decide +kernel⟩
theorem ok__law_other_form (T : Txt K mg) : Ok P w K mg base 3 (Str.ofString "_law_other_form") s__law_other_form [] [Str.ofString "box", Str.ofString "lot"] p__law_other_form := by
  obtain ⟨a, fd, F, m⟩ := T.f__law_other_form
  refine ⟨a, fd, F, m, fn_D (k := 2) F sc__law_other_form fun cdv A outer s H E hr => ?_⟩
  obtain ⟨a__law_has, fd__law_has, F__law_has, m__law_has, G__law_has⟩ := ok__law_has (P := P) (w := w) (base := base) T
  have k__law_has := F__law_has.kp
  obtain ⟨a__law_pick, fd__law_pick, F__law_pick, m__law_pick, G__law_pick⟩ := ok__law_pick (P := P) (w := w) (base := base) T
  have k__law_pick := F__law_pick.kp
  obtain ⟨a__law_take, fd__law_take, F__law_take, m__law_take, G__law_take⟩ := ok__law_take (P := P) (w := w) (base := base) T
  have k__law_take := F__law_take.kp
  have b__law_pick_2 := kbn0 (ps := [Str.ofString "box", Str.ofString "some"]) F__law_pick 2 [] (fun us ws => [us.getD 0 .none, us.getD 1 .none]) (fun vs zs => [vs.getD 0 .non, vs.getD 1 .non]) (fun r1 r2 => (.cons (vals_getD r1 0) (.cons (vals_getD r1 1) .nil))) fun _ _ _ _ _ _ us ws l1 l2 => match us, ws, l1, l2 with | [_, _], [], _, _ => rfl
  have b__law_take_2 := kbn0 (ps := [Str.ofString "box", Str.ofString "many"]) F__law_take 2 [] (fun us ws => [us.getD 0 .none, us.getD 1 .none]) (fun vs zs => [vs.getD 0 .non, vs.getD 1 .non]) (fun r1 r2 => (.cons (vals_getD r1 0) (.cons (vals_getD r1 1) .nil))) fun _ _ _ _ _ _ us ws l1 l2 => match us, ws, l1, l2 with | [_, _], [], _, _ => rfl
  have b__law_has_2 := kbn0 (ps := [Str.ofString "lot", Str.ofString "number"]) F__law_has 2 [] (fun us ws => [us.getD 0 .none, us.getD 1 .none]) (fun vs zs => [vs.getD 0 .non, vs.getD 1 .non]) (fun r1 r2 => (.cons (vals_getD r1 0) (.cons (vals_getD r1 1) .nil))) fun _ _ _ _ _ _ us ws l1 l2 => match us, ws, l1, l2 with | [_, _], [], _, _ => rfl
  have tk := takes_of (X := cxOf (L2.CX P w) P w K mg base [Str.ofString "box", Str.ofString "lot", Str.ofString "modulus", Str.ofString "low", Str.ofString "high", Str.ofString "below", Str.ofString "above", Str.ofString "rest", Str.ofString "number"] (Str.ofString "_law_other_form") (defScope s__law_other_form) a cdv A outer s H E) rfl rfl rfl rfl
  have hp := passes_of (X := cxOf (L2.CX P w) P w K mg base [Str.ofString "box", Str.ofString "lot", Str.ofString "modulus", Str.ofString "low", Str.ofString "high", Str.ofString "below", Str.ofString "above", Str.ofString "rest", Str.ofString "number"] (Str.ofString "_law_other_form") (defScope s__law_other_form) a cdv A outer s H E) rfl
  exact (ds_cons (ds_set (i := 2) sc__law_other_form.nd (by rfl) (by first | exact Or.inl rfl | exact Or.inr rfl) (dv_of (de_op op_mulD opd_mul (de_ix (dv 1) de_int) (de_call (gD := (fun ds es => [ds.getD 0 .non, ds.getD 1 .non])) tk G__law_pick (hr.mono (by first | decide | omega)) (by rfl) m__law_pick k__law_pick b__law_pick_2 (fun _ _ _ _ _ _ h1 h2 => (Reps.cons (reps_getD h1 0) (Reps.cons (reps_getD h1 1) Reps.nil))) (fun _ _ _ _ => rfl) (da_cons (dv 0) (da_cons (de_if (dt_cmp op_lt (opd_cmp _) (de_ix (dv 1) de_int) de_int (nomark _)) (de_lst (da_cons de_int (da_cons de_int (da_cons de_int da_nil)))) (de_lst (da_cons de_int da_nil))) da_nil)) dk_nil)))) (ds_cons (ds_par (i := 3) (j := 4) rfl sc__law_other_form.nd (by rfl) (by rfl) (by decide) (by rfl) (by rfl) (dv_of (de_op op_sub opd_sub (de_ix (dv 1) de_int) (de_call (gD := (fun ds es => [ds.getD 0 .non, ds.getD 1 .non])) tk G__law_take (hr.mono (by first | decide | omega)) (by rfl) m__law_take k__law_take b__law_take_2 (fun _ _ _ _ _ _ h1 h2 => (Reps.cons (reps_getD h1 0) (Reps.cons (reps_getD h1 1) Reps.nil))) (fun _ _ _ _ => rfl) (da_cons (dv 0) (da_cons de_int da_nil)) dk_nil))) (dv_of (de_op op_addA opd_add (de_ix (dv 1) de_int) (de_call (gD := (fun ds es => [ds.getD 0 .non, ds.getD 1 .non])) tk G__law_take (hr.mono (by first | decide | omega)) (by rfl) m__law_take k__law_take b__law_take_2 (fun _ _ _ _ _ _ h1 h2 => (Reps.cons (reps_getD h1 0) (Reps.cons (reps_getD h1 1) Reps.nil))) (fun _ _ _ _ => rfl) (da_cons (dv 0) (da_cons de_int da_nil)) dk_nil))) (by rfl)) (ds_cons (ds_set (i := 5) sc__law_other_form.nd (by rfl) (by first | exact Or.inl rfl | exact Or.inr rfl) (dv_of (de_callTy call_tuple_of cd_tuple (by rfl) T.z_tuple bt_tuple (da_cons (de_lc rfl sc__law_other_form.nd (di_range1 (by rfl) T.z_range (da_cons (dv 2) da_nil)) (blkOk_by (N := [Str.ofString "box", Str.ofString "lot", Str.ofString "modulus", Str.ofString "low", Str.ofString "high", Str.ofString "below", Str.ofString "above", Str.ofString "rest", Str.ofString "number"]) (sc := defScope s__law_other_form) (own := [(Str.ofString "rest", 7)]) (by decide +kernel)) (fun _ _ _ _ _ => (dg_name (i := 7) sc__law_other_form.nd (by rfl) (by first | exact Or.inl rfl | exact Or.inr rfl))) (fun _ _ _ _ _ => (dts_one (dt_cmp op_in_seq opd_in (de_op op_mod opd_mod (de_callTy call_int1 cd_int (by rfl) T.z_int bt_int (da_cons (dv 7) da_nil)) (de_ix (dv 1) de_int)) (de_ix (dv 1) de_int) (by rfl)))) (fun _ _ _ _ _ => (dv 7))) da_nil)))) (ds_cons (ds_set (i := 6) sc__law_other_form.nd (by rfl) (by first | exact Or.inl rfl | exact Or.inr rfl) (dv_of (de_callTy call_tuple_of cd_tuple (by rfl) T.z_tuple bt_tuple (da_cons (de_lc rfl sc__law_other_form.nd (di_range1 (by rfl) T.z_range (da_cons (dv 2) da_nil)) (blkOk_by (N := [Str.ofString "box", Str.ofString "lot", Str.ofString "modulus", Str.ofString "low", Str.ofString "high", Str.ofString "below", Str.ofString "above", Str.ofString "rest", Str.ofString "number"]) (sc := defScope s__law_other_form) (own := [(Str.ofString "rest", 7)]) (by decide +kernel)) (fun _ _ _ _ _ => (dg_name (i := 7) sc__law_other_form.nd (by rfl) (by first | exact Or.inl rfl | exact Or.inr rfl))) (fun _ _ _ _ _ => (dts_one (dt_cmp op_in_seq opd_in (de_op op_mod opd_mod (de_callTy call_int1 cd_int (by rfl) T.z_int bt_int (da_cons (dv 7) da_nil)) (de_ix (dv 1) de_int)) (de_ix (dv 1) de_int) (by rfl)))) (fun _ _ _ _ _ => (dv 7))) da_nil)))) (ds_one (ds_ret (de_tup (da_cons (dv 2) (da_cons (dv 5) (da_cons (dv 3) (da_cons (de_callTy call_tuple_of cd_tuple (by rfl) T.z_tuple bt_tuple (da_cons (de_lc rfl sc__law_other_form.nd (di_rangeB (by rfl) T.z_range (da_cons (dv 3) (da_cons (dv 4) da_nil))) (blkOk_by (N := [Str.ofString "box", Str.ofString "lot", Str.ofString "modulus", Str.ofString "low", Str.ofString "high", Str.ofString "below", Str.ofString "above", Str.ofString "rest", Str.ofString "number"]) (sc := defScope s__law_other_form) (own := [(Str.ofString "number", 8)]) (by decide +kernel)) (fun _ _ _ _ _ => (dg_name (i := 8) sc__law_other_form.nd (by rfl) (by first | exact Or.inl rfl | exact Or.inr rfl))) (fun _ _ _ _ _ => (dts_one (dt_truth (de_call (gD := (fun ds es => [ds.getD 0 .non, ds.getD 1 .non])) takes0 G__law_has (hr.mono (by first | decide | omega)) (by rfl) m__law_has k__law_has b__law_has_2 (fun _ _ _ _ _ _ h1 h2 => (Reps.cons (reps_getD h1 0) (Reps.cons (reps_getD h1 1) Reps.nil))) (fun _ _ _ _ => rfl) (da_cons (dv 1) (da_cons (dv 8) da_nil)) dk_nil)))) (fun _ _ _ _ _ => (dv 8))) da_nil)) (da_cons (dv 4) (da_cons (dv 6) da_nil)))))))))))))
end
end T79
set_option maxHeartbeats 4000000
namespace T79
open PySem PySem.Spec L2 DL
section
variable {P : Program} {w : World} {K : PySem.W.Frag} {mg : Str → Option Value} {base : Heap}
theorem sc__law_sides : FnScope [Str.ofString "lot", Str.ofString "low", Str.ofString "high", Str.ofString "sides", Str.ofString "one"] [Str.ofString "lot", Str.ofString "low", Str.ofString "high"] (defScope s__law_sides) := ⟨rfl, rfl, rfl, by decide +kernel, rfl, by decide +kernel, by decide +kernel⟩
theorem ok__law_sides (T : Txt K mg) : Ok P w K mg base 1 (Str.ofString "_law_sides") s__law_sides [] [Str.ofString "lot", Str.ofString "low", Str.ofString "high"] p__law_sides := by
  obtain ⟨a, fd, F, m⟩ := T.f__law_sides
  refine ⟨a, fd, F, m, fn_D (k := 0) F sc__law_sides fun cdv A outer s H E hr => ?_⟩
  have tk := takes_of (X := cxOf (L2.CX P w) P w K mg base [Str.ofString "lot", Str.ofString "low", Str.ofString "high", Str.ofString "sides", Str.ofString "one"] (Str.ofString "_law_sides") (defScope s__law_sides) a cdv A outer s H E) rfl rfl rfl rfl
  have hp := passes_of (X := cxOf (L2.CX P w) P w K mg base [Str.ofString "lot", Str.ofString "low", Str.ofString "high", Str.ofString "sides", Str.ofString "one"] (Str.ofString "_law_sides") (defScope s__law_sides) a cdv A outer s H E) rfl
  exact (ds_cons (ds_set (i := 3) sc__law_sides.nd (by rfl) (by first | exact Or.inl rfl | exact Or.inr rfl) (dv_of (de_lst (da_cons (de_tup (da_cons (dv 1) (da_cons (de_callB (call_min2 rfl) cd_min (by rfl) T.z_min bt_min (da_cons (dv 2) (da_cons (de_op op_sub opd_sub (de_ix (dv 0) de_int) de_int) da_nil))) (da_cons (de_ix (dv 0) de_int) da_nil)))) (da_cons (de_tup (da_cons (de_callB (call_max2 rfl) cd_max (by rfl) T.z_max bt_max (da_cons (dv 1) (da_cons (de_ix (dv 0) de_int) da_nil))) (da_cons (dv 2) (da_cons (de_ix (dv 0) de_int) da_nil)))) da_nil))))) (ds_one (ds_ret (de_tup (da_cons (dv 3) (da_cons (de_lc rfl sc__law_sides.nd (di_seq (de_ix (dv 0) de_int)) (blkOk_by (N := [Str.ofString "lot", Str.ofString "low", Str.ofString "high", Str.ofString "sides", Str.ofString "one"]) (sc := defScope s__law_sides) (own := [(Str.ofString "one", 4)]) (by decide +kernel)) (fun _ _ _ _ _ => (dg_name (i := 4) sc__law_sides.nd (by rfl) (by first | exact Or.inl rfl | exact Or.inr rfl))) (fun _ _ _ _ _ => (dts_one (dt_chain op_le op_le (opd_cmp _) (opd_cmp _) (dv 1) (dv 4) (dv 2)))) (fun _ _ _ _ _ => (dv 4))) da_nil))))))
theorem sc__law_count : FnScope [Str.ofString "lot", Str.ofString "low", Str.ofString "high", Str.ofString "sides", Str.ofString "between", Str.ofString "found", Str.ofString "first", Str.ofString "last", Str.ofString "rests", Str.ofString "rest"] [Str.ofString "lot", Str.ofString "low", Str.ofString "high"] (defScope s__law_count) := ⟨rfl, rfl, rfl, by decide +kernel, rfl, by decide +kernel, by decide +kernel⟩
theorem ok__law_count (T : Txt K mg) : Ok P w K mg base 2 (Str.ofString "_law_count") s__law_count [] [Str.ofString "lot", Str.ofString "low", Str.ofString "high"] p__law_count := by
  obtain ⟨a, fd, F, m⟩ := T.f__law_count
  refine ⟨a, fd, F, m, fn_D (k := 1) F sc__law_count fun cdv A outer s H E hr => ?_⟩
  obtain ⟨a__law_sides, fd__law_sides, F__law_sides, m__law_sides, G__law_sides⟩ := ok__law_sides (P := P) (w := w) (base := base) T
  have k__law_sides := F__law_sides.kp
  have b__law_sides_3 := kbn0 (ps := [Str.ofString "lot", Str.ofString "low", Str.ofString "high"]) F__law_sides 3 [] (fun us ws => [us.getD 0 .none, us.getD 1 .none, us.getD 2 .none]) (fun vs zs => [vs.getD 0 .non, vs.getD 1 .non, vs.getD 2 .non]) (fun r1 r2 => (.cons (vals_getD r1 0) (.cons (vals_getD r1 1) (.cons (vals_getD r1 2) .nil)))) fun _ _ _ _ _ _ us ws l1 l2 => match us, ws, l1, l2 with | [_, _, _], [], _, _ => rfl
  have tk := takes_of (X := cxOf (L2.CX P w) P w K mg base [Str.ofString "lot", Str.ofString "low", Str.ofString "high", Str.ofString "sides", Str.ofString "between", Str.ofString "found", Str.ofString "first", Str.ofString "last", Str.ofString "rests", Str.ofString "rest"] (Str.ofString "_law_count") (defScope s__law_count) a cdv A outer s H E) rfl rfl rfl rfl
  have hp := passes_of (X := cxOf (L2.CX P w) P w K mg base [Str.ofString "lot", Str.ofString "low", Str.ofString "high", Str.ofString "sides", Str.ofString "between", Str.ofString "found", Str.ofString "first", Str.ofString "last", Str.ofString "rests", Str.ofString "rest"] (Str.ofString "_law_count") (defScope s__law_count) a cdv A outer s H E) rfl
  exact (ds_cons (ds_asg (dg_tup rfl (dgs_cons (dg_name (i := 3) sc__law_count.nd (by rfl) (by first | exact Or.inl rfl | exact Or.inr rfl)) (dgs_cons (dg_name (i := 4) sc__law_count.nd (by rfl) (by first | exact Or.inl rfl | exact Or.inr rfl)) dgs_nil))) (de_call (gD := (fun ds es => [ds.getD 0 .non, ds.getD 1 .non, ds.getD 2 .non])) tk G__law_sides (hr.mono (by first | decide | omega)) (by rfl) m__law_sides k__law_sides b__law_sides_3 (fun _ _ _ _ _ _ h1 h2 => (Reps.cons (reps_getD h1 0) (Reps.cons (reps_getD h1 1) (Reps.cons (reps_getD h1 2) Reps.nil)))) (fun _ _ _ _ => rfl) (da_cons (dv 0) (da_cons (dv 1) (da_cons (dv 2) da_nil))) dk_nil)) (ds_cons (ds_set (i := 5) sc__law_count.nd (by rfl) (by first | exact Or.inl rfl | exact Or.inr rfl) (dv_of (de_callB call_len cd_len (by rfl) T.z_len bt_len (da_cons (dv 4) da_nil)))) (ds_cons (ds_for hp rfl (di_seq (dv 3)) (dg_tup rfl (dgs_cons (dg_name (i := 6) sc__law_count.nd (by rfl) (by first | exact Or.inl rfl | exact Or.inr rfl)) (dgs_cons (dg_name (i := 7) sc__law_count.nd (by rfl) (by first | exact Or.inl rfl | exact Or.inr rfl)) (dgs_cons (dg_name (i := 8) sc__law_count.nd (by rfl) (by first | exact Or.inl rfl | exact Or.inr rfl)) dgs_nil)))) (ds_one (ds_if (dt_cmp op_le (opd_cmp _) (dv 6) (dv 7) (nomark _)) (ds_one (ds_set (i := 5) sc__law_count.nd (by rfl) (by first | exact Or.inl rfl | exact Or.inr rfl) (dv_of (de_op op_addA opd_add (dv 5) (de_callB (cr_sum rfl) cd_sum (by rfl) T.z_sum bt_sum (da_cons (de_lc rfl sc__law_count.nd (di_seq (dv 8)) (blkOk_by (N := [Str.ofString "lot", Str.ofString "low", Str.ofString "high", Str.ofString "sides", Str.ofString "between", Str.ofString "found", Str.ofString "first", Str.ofString "last", Str.ofString "rests", Str.ofString "rest"]) (sc := defScope s__law_count) (own := [(Str.ofString "rest", 9)]) (by decide +kernel)) (fun _ _ _ _ _ => (dg_name (i := 9) sc__law_count.nd (by rfl) (by first | exact Or.inl rfl | exact Or.inr rfl))) (fun _ _ _ _ _ => dts_nil) (fun _ _ _ _ _ => (de_op op_sub opd_sub (de_op op_fdivD opd_fdiv (de_op op_sub opd_sub (dv 7) (dv 9)) (de_ix (dv 0) de_int)) (de_op op_fdivD opd_fdiv (de_op op_sub opd_sub (de_op op_sub opd_sub (dv 6) de_int) (dv 9)) (de_ix (dv 0) de_int))))) da_nil)))))) ds_nil))) (ds_one (ds_ret (dv 5))))))
theorem sc__law_sum : FnScope [Str.ofString "lot", Str.ofString "low", Str.ofString "high", Str.ofString "sides", Str.ofString "between", Str.ofString "found", Str.ofString "first", Str.ofString "last", Str.ofString "rests", Str.ofString "rest", Str.ofString "start", Str.ofString "many"] [Str.ofString "lot", Str.ofString "low", Str.ofString "high"] (defScope s__law_sum) := ⟨rfl, rfl, rfl, by decide +kernel, rfl, by decide +kernel, by decide +kernel⟩
theorem ok__law_sum (T : Txt K mg) : Ok P w K mg base 2 (Str.ofString "_law_sum") s__law_sum [] [Str.ofString "lot", Str.ofString "low", Str.ofString "high"] p__law_sum := by
  obtain ⟨a, fd, F, m⟩ := T.f__law_sum
  refine ⟨a, fd, F, m, fn_D (k := 1) F sc__law_sum fun cdv A outer s H E hr => ?_⟩
  obtain ⟨a__law_sides, fd__law_sides, F__law_sides, m__law_sides, G__law_sides⟩ := ok__law_sides (P := P) (w := w) (base := base) T
  have k__law_sides := F__law_sides.kp
  have b__law_sides_3 := kbn0 (ps := [Str.ofString "lot", Str.ofString "low", Str.ofString "high"]) F__law_sides 3 [] (fun us ws => [us.getD 0 .none, us.getD 1 .none, us.getD 2 .none]) (fun vs zs => [vs.getD 0 .non, vs.getD 1 .non, vs.getD 2 .non]) (fun r1 r2 => (.cons (vals_getD r1 0) (.cons (vals_getD r1 1) (.cons (vals_getD r1 2) .nil)))) fun _ _ _ _ _ _ us ws l1 l2 => match us, ws, l1, l2 with | [_, _, _], [], _, _ => rfl
  have tk := takes_of (X := cxOf (L2.CX P w) P w K mg base [Str.ofString "lot", Str.ofString "low", Str.ofString "high", Str.ofString "sides", Str.ofString "between", Str.ofString "found", Str.ofString "first", Str.ofString "last", Str.ofString "rests", Str.ofString "rest", Str.ofString "start", Str.ofString "many"] (Str.ofString "_law_sum") (defScope s__law_sum) a cdv A outer s H E) rfl rfl rfl rfl
  have hp := passes_of (X := cxOf (L2.CX P w) P w K mg base [Str.ofString "lot", Str.ofString "low", Str.ofString "high", Str.ofString "sides", Str.ofString "between", Str.ofString "found", Str.ofString "first", Str.ofString "last", Str.ofString "rests", Str.ofString "rest", Str.ofString "start", Str.ofString "many"] (Str.ofString "_law_sum") (defScope s__law_sum) a cdv A outer s H E) rfl
  exact (ds_cons (ds_asg (dg_tup rfl (dgs_cons (dg_name (i := 3) sc__law_sum.nd (by rfl) (by first | exact Or.inl rfl | exact Or.inr rfl)) (dgs_cons (dg_name (i := 4) sc__law_sum.nd (by rfl) (by first | exact Or.inl rfl | exact Or.inr rfl)) dgs_nil))) (de_call (gD := (fun ds es => [ds.getD 0 .non, ds.getD 1 .non, ds.getD 2 .non])) tk G__law_sides (hr.mono (by first | decide | omega)) (by rfl) m__law_sides k__law_sides b__law_sides_3 (fun _ _ _ _ _ _ h1 h2 => (Reps.cons (reps_getD h1 0) (Reps.cons (reps_getD h1 1) (Reps.cons (reps_getD h1 2) Reps.nil)))) (fun _ _ _ _ => rfl) (da_cons (dv 0) (da_cons (dv 1) (da_cons (dv 2) da_nil))) dk_nil)) (ds_cons (ds_set (i := 5) sc__law_sum.nd (by rfl) (by first | exact Or.inl rfl | exact Or.inr rfl) (dv_of (de_callB (cr_sum rfl) cd_sum (by rfl) T.z_sum bt_sum (da_cons (dv 4) da_nil)))) (ds_cons (ds_for hp rfl (di_seq (dv 3)) (dg_tup rfl (dgs_cons (dg_name (i := 6) sc__law_sum.nd (by rfl) (by first | exact Or.inl rfl | exact Or.inr rfl)) (dgs_cons (dg_name (i := 7) sc__law_sum.nd (by rfl) (by first | exact Or.inl rfl | exact Or.inr rfl)) (dgs_cons (dg_name (i := 8) sc__law_sum.nd (by rfl) (by first | exact Or.inl rfl | exact Or.inr rfl)) dgs_nil)))) (ds_one (ds_for hp rfl (di_seq (dv 8)) (dg_name (i := 9) sc__law_sum.nd (by rfl) (by first | exact Or.inl rfl | exact Or.inr rfl)) (ds_cons (ds_set (i := 10) sc__law_sum.nd (by rfl) (by first | exact Or.inl rfl | exact Or.inr rfl) (dv_of (de_op op_addA opd_add (dv 6) (de_op op_mod opd_mod (de_callTy call_int1 cd_int (by rfl) T.z_int bt_int (da_cons (de_op op_sub opd_sub (dv 9) (dv 6)) da_nil)) (de_ix (dv 0) de_int))))) (ds_cons (ds_set (i := 11) sc__law_sum.nd (by rfl) (by first | exact Or.inl rfl | exact Or.inr rfl) (dv_of (de_if (dt_cmp op_le (opd_cmp _) (dv 10) (dv 7) (nomark _)) (de_op op_addA opd_add (de_op op_fdivD opd_fdiv (de_op op_sub opd_sub (dv 7) (dv 10)) (de_ix (dv 0) de_int)) de_int) de_int))) (ds_one (ds_set (i := 5) sc__law_sum.nd (by rfl) (by first | exact Or.inl rfl | exact Or.inr rfl) (dv_of (de_op op_addA opd_add (de_op op_addA opd_add (dv 5) (de_op op_mulD opd_mul (dv 11) (dv 10))) (de_op op_mulD opd_mul (de_ix (dv 0) de_int) (de_op op_fdivD opd_fdiv (de_op op_mulD opd_mul (dv 11) (de_op op_sub opd_sub (dv 11) de_int)) de_int))))))))))) (ds_one (ds_ret (dv 5))))))
theorem sc__law_wide_number_of : FnScope [Str.ofString "box", Str.ofString "way", Str.ofString "size", Str.ofString "number"] [Str.ofString "box"] (defScope s__law_wide_number_of) := ⟨rfl, rfl, rfl, by decide +kernel, rfl, by decide +kernel, by decide +kernel⟩
theorem ok__law_wide_number_of (T : Txt K mg) : Ok P w K mg base 3 (Str.ofString "_law_wide_number_of") s__law_wide_number_of [] [Str.ofString "box"] p__law_wide_number_of := by
  obtain ⟨a, fd, F, m⟩ := T.f__law_wide_number_of
  refine ⟨a, fd, F, m, fn_D (k := 2) F sc__law_wide_number_of fun cdv A outer s H E hr => ?_⟩
  obtain ⟨a__law_pick, fd__law_pick, F__law_pick, m__law_pick, G__law_pick⟩ := ok__law_pick (P := P) (w := w) (base := base) T
  have k__law_pick := F__law_pick.kp
  obtain ⟨a__law_take, fd__law_take, F__law_take, m__law_take, G__law_take⟩ := ok__law_take (P := P) (w := w) (base := base) T
  have k__law_take := F__law_take.kp
  have b__law_take_2 := kbn0 (ps := [Str.ofString "box", Str.ofString "many"]) F__law_take 2 [] (fun us ws => [us.getD 0 .none, us.getD 1 .none]) (fun vs zs => [vs.getD 0 .non, vs.getD 1 .non]) (fun r1 r2 => (.cons (vals_getD r1 0) (.cons (vals_getD r1 1) .nil))) fun _ _ _ _ _ _ us ws l1 l2 => match us, ws, l1, l2 with | [_, _], [], _, _ => rfl
  have b__law_pick_2 := kbn0 (ps := [Str.ofString "box", Str.ofString "some"]) F__law_pick 2 [] (fun us ws => [us.getD 0 .none, us.getD 1 .none]) (fun vs zs => [vs.getD 0 .non, vs.getD 1 .non]) (fun r1 r2 => (.cons (vals_getD r1 0) (.cons (vals_getD r1 1) .nil))) fun _ _ _ _ _ _ us ws l1 l2 => match us, ws, l1, l2 with | [_, _], [], _, _ => rfl
  have tk := takes_of (X := cxOf (L2.CX P w) P w K mg base [Str.ofString "box", Str.ofString "way", Str.ofString "size", Str.ofString "number"] (Str.ofString "_law_wide_number_of") (defScope s__law_wide_number_of) a cdv A outer s H E) rfl rfl rfl rfl
  have hp := passes_of (X := cxOf (L2.CX P w) P w K mg base [Str.ofString "box", Str.ofString "way", Str.ofString "size", Str.ofString "number"] (Str.ofString "_law_wide_number_of") (defScope s__law_wide_number_of) a cdv A outer s H E) rfl
  exact (ds_cons (ds_set (i := 1) sc__law_wide_number_of.nd (by rfl) (by first | exact Or.inl rfl | exact Or.inr rfl) (dv_of (de_call (gD := (fun ds es => [ds.getD 0 .non, ds.getD 1 .non])) tk G__law_take (hr.mono (by first | decide | omega)) (by rfl) m__law_take k__law_take b__law_take_2 (fun _ _ _ _ _ _ h1 h2 => (Reps.cons (reps_getD h1 0) (Reps.cons (reps_getD h1 1) Reps.nil))) (fun _ _ _ _ => rfl) (da_cons (dv 0) (da_cons de_int da_nil)) dk_nil))) (ds_cons (ds_if (dt_cmp op_lt (opd_cmp _) (dv 1) de_int (nomark _)) (ds_one (ds_ret (de_op op_sub opd_sub (de_call (gD := (fun ds es => [ds.getD 0 .non, ds.getD 1 .non])) tk G__law_take (hr.mono (by first | decide | omega)) (by rfl) m__law_take k__law_take b__law_take_2 (fun _ _ _ _ _ _ h1 h2 => (Reps.cons (reps_getD h1 0) (Reps.cons (reps_getD h1 1) Reps.nil))) (fun _ _ _ _ => rfl) (da_cons (dv 0) (da_cons de_int da_nil)) dk_nil) de_int))) ds_nil) (ds_cons (ds_if (dt_cmp (op_eqD hr.units) opd_eq (dv 1) de_int (nomark _)) (ds_one (ds_ret (de_op op_sub opd_sub (de_call (gD := (fun ds es => [ds.getD 0 .non, ds.getD 1 .non])) tk G__law_take (hr.mono (by first | decide | omega)) (by rfl) m__law_take k__law_take b__law_take_2 (fun _ _ _ _ _ _ h1 h2 => (Reps.cons (reps_getD h1 0) (Reps.cons (reps_getD h1 1) Reps.nil))) (fun _ _ _ _ => rfl) (da_cons (dv 0) (da_cons de_int da_nil)) dk_nil) de_int))) ds_nil) (ds_cons (ds_set (i := 2) sc__law_wide_number_of.nd (by rfl) (by first | exact Or.inl rfl | exact Or.inr rfl) (dv_of (de_call (gD := (fun ds es => [ds.getD 0 .non, ds.getD 1 .non])) tk G__law_pick (hr.mono (by first | decide | omega)) (by rfl) m__law_pick k__law_pick b__law_pick_2 (fun _ _ _ _ _ _ h1 h2 => (Reps.cons (reps_getD h1 0) (Reps.cons (reps_getD h1 1) Reps.nil))) (fun _ _ _ _ => rfl) (da_cons (dv 0) (da_cons (de_lst (da_cons (de_op op_pow opd_pow de_int de_int) (da_cons (de_op op_pow opd_pow de_int de_int) (da_cons (de_op op_pow opd_pow de_int de_int) da_nil)))) da_nil)) dk_nil))) (ds_cons (ds_set (i := 3) sc__law_wide_number_of.nd (by rfl) (by first | exact Or.inl rfl | exact Or.inr rfl) (dv_of (de_op op_addA opd_add (dv 2) (de_call (gD := (fun ds es => [ds.getD 0 .non, ds.getD 1 .non])) tk G__law_take (hr.mono (by first | decide | omega)) (by rfl) m__law_take k__law_take b__law_take_2 (fun _ _ _ _ _ _ h1 h2 => (Reps.cons (reps_getD h1 0) (Reps.cons (reps_getD h1 1) Reps.nil))) (fun _ _ _ _ => rfl) (da_cons (dv 0) (da_cons (de_op op_pow opd_pow de_int de_int) da_nil)) dk_nil)))) (ds_one (ds_ret (de_if (dt_cmp (op_eqD hr.units) opd_eq (de_call (gD := (fun ds es => [ds.getD 0 .non, ds.getD 1 .non])) tk G__law_take (hr.mono (by first | decide | omega)) (by rfl) m__law_take k__law_take b__law_take_2 (fun _ _ _ _ _ _ h1 h2 => (Reps.cons (reps_getD h1 0) (Reps.cons (reps_getD h1 1) Reps.nil))) (fun _ _ _ _ => rfl) (da_cons (dv 0) (da_cons de_int da_nil)) dk_nil) de_int (nomark _)) (dv 3) (de_op op_sub opd_sub de_int (dv 3))))))))))
theorem sc__law_stretch_right : FnScope [Str.ofString "lot", Str.ofString "low", Str.ofString "high", Str.ofString "count", Str.ofString "total", Str.ofString "some", Str.ofString "number"] [Str.ofString "lot", Str.ofString "low", Str.ofString "high"] (defScope s__law_stretch_right) := ⟨rfl, rfl, rfl, by decide +kernel, rfl, by decide +kernel, by decide +kernel⟩
theorem ok__law_stretch_right (T : Txt K mg) : Ok P w K mg base 10 (Str.ofString "_law_stretch_right") s__law_stretch_right [] [Str.ofString "lot", Str.ofString "low", Str.ofString "high"] p__law_stretch_right := by
  obtain ⟨a, fd, F, m⟩ := T.f__law_stretch_right
  refine ⟨a, fd, F, m, fn_D (k := 9) F sc__law_stretch_right fun cdv A outer s H E hr => ?_⟩
  obtain ⟨a__law_count, fd__law_count, F__law_count, m__law_count, G__law_count⟩ := ok__law_count (P := P) (w := w) (base := base) T
  have k__law_count := F__law_count.kp
  obtain ⟨a__law_has, fd__law_has, F__law_has, m__law_has, G__law_has⟩ := ok__law_has (P := P) (w := w) (base := base) T
  have k__law_has := F__law_has.kp
  obtain ⟨a__law_is, fd__law_is, F__law_is, m__law_is, G__law_is⟩ := ok__law_is (P := P) (w := w) (base := base) T 8
  have k__law_is := F__law_is.kp
  obtain ⟨a__law_sum, fd__law_sum, F__law_sum, m__law_sum, G__law_sum⟩ := ok__law_sum (P := P) (w := w) (base := base) T
  have k__law_sum := F__law_sum.kp
  obtain ⟨a_how_many, fd_how_many, F_how_many, m_how_many, G_how_many⟩ := ok_how_many (P := P) (w := w) (base := base) T
  have k_how_many := F_how_many.kp
  obtain ⟨a_place_in, fd_place_in, F_place_in, m_place_in, G_place_in⟩ := ok_place_in (P := P) (w := w) (base := base) T
  have k_place_in := F_place_in.kp
  obtain ⟨a_sum_in, fd_sum_in, F_sum_in, m_sum_in, G_sum_in⟩ := ok_sum_in (P := P) (w := w) (base := base) T
  have k_sum_in := F_sum_in.kp
  have b__law_count_3 := kbn0 (ps := [Str.ofString "lot", Str.ofString "low", Str.ofString "high"]) F__law_count 3 [] (fun us ws => [us.getD 0 .none, us.getD 1 .none, us.getD 2 .none]) (fun vs zs => [vs.getD 0 .non, vs.getD 1 .non, vs.getD 2 .non]) (fun r1 r2 => (.cons (vals_getD r1 0) (.cons (vals_getD r1 1) (.cons (vals_getD r1 2) .nil)))) fun _ _ _ _ _ _ us ws l1 l2 => match us, ws, l1, l2 with | [_, _, _], [], _, _ => rfl
  have b__law_sum_3 := kbn0 (ps := [Str.ofString "lot", Str.ofString "low", Str.ofString "high"]) F__law_sum 3 [] (fun us ws => [us.getD 0 .none, us.getD 1 .none, us.getD 2 .none]) (fun vs zs => [vs.getD 0 .non, vs.getD 1 .non, vs.getD 2 .non]) (fun r1 r2 => (.cons (vals_getD r1 0) (.cons (vals_getD r1 1) (.cons (vals_getD r1 2) .nil)))) fun _ _ _ _ _ _ us ws l1 l2 => match us, ws, l1, l2 with | [_, _, _], [], _, _ => rfl
  have b__law_has_2 := kbn0 (ps := [Str.ofString "lot", Str.ofString "number"]) F__law_has 2 [] (fun us ws => [us.getD 0 .none, us.getD 1 .none]) (fun vs zs => [vs.getD 0 .non, vs.getD 1 .non]) (fun r1 r2 => (.cons (vals_getD r1 0) (.cons (vals_getD r1 1) .nil))) fun _ _ _ _ _ _ us ws l1 l2 => match us, ws, l1, l2 with | [_, _], [], _, _ => rfl
  have b__law_is_2 := kbn0 (ps := [Str.ofString "told", Str.ofString "due"]) F__law_is 2 [] (fun us ws => [us.getD 0 .none, us.getD 1 .none]) (fun vs zs => [vs.getD 0 .non, vs.getD 1 .non]) (fun r1 r2 => (.cons (vals_getD r1 0) (.cons (vals_getD r1 1) .nil))) fun _ _ _ _ _ _ us ws l1 l2 => match us, ws, l1, l2 with | [_, _], [], _, _ => rfl
  have b_place_in_3 := kbn0 (ps := [Str.ofString "lot", Str.ofString "low", Str.ofString "number"]) F_place_in 3 [] (fun us ws => [us.getD 0 .none, us.getD 1 .none, us.getD 2 .none]) (fun vs zs => [vs.getD 0 .non, vs.getD 1 .non, vs.getD 2 .non]) (fun r1 r2 => (.cons (vals_getD r1 0) (.cons (vals_getD r1 1) (.cons (vals_getD r1 2) .nil)))) fun _ _ _ _ _ _ us ws l1 l2 => match us, ws, l1, l2 with | [_, _, _], [], _, _ => rfl
  have b_sum_in_3 := kbn0 (ps := [Str.ofString "lot", Str.ofString "low", Str.ofString "high"]) F_sum_in 3 [] (fun us ws => [us.getD 0 .none, us.getD 1 .none, us.getD 2 .none]) (fun vs zs => [vs.getD 0 .non, vs.getD 1 .non, vs.getD 2 .non]) (fun r1 r2 => (.cons (vals_getD r1 0) (.cons (vals_getD r1 1) (.cons (vals_getD r1 2) .nil)))) fun _ _ _ _ _ _ us ws l1 l2 => match us, ws, l1, l2 with | [_, _, _], [], _, _ => rfl
  have b_how_many_3 := kbn0 (ps := [Str.ofString "lot", Str.ofString "low", Str.ofString "high"]) F_how_many 3 [] (fun us ws => [us.getD 0 .none, us.getD 1 .none, us.getD 2 .none]) (fun vs zs => [vs.getD 0 .non, vs.getD 1 .non, vs.getD 2 .non]) (fun r1 r2 => (.cons (vals_getD r1 0) (.cons (vals_getD r1 1) (.cons (vals_getD r1 2) .nil)))) fun _ _ _ _ _ _ us ws l1 l2 => match us, ws, l1, l2 with | [_, _, _], [], _, _ => rfl
  have b_sum_in_0_high_lot_low := kbn0 (ps := [Str.ofString "lot", Str.ofString "low", Str.ofString "high"]) F_sum_in 0 [Str.ofString "high", Str.ofString "lot", Str.ofString "low"] (fun us ws => [ws.getD 1 .none, ws.getD 2 .none, ws.getD 0 .none]) (fun vs zs => [zs.getD 1 .non, zs.getD 2 .non, zs.getD 0 .non]) (fun r1 r2 => (.cons (vals_getD r2 1) (.cons (vals_getD r2 2) (.cons (vals_getD r2 0) .nil)))) fun _ _ _ _ _ _ us ws l1 l2 => match us, ws, l1, l2 with | [], [_, _, _], _, _ => rfl
  have b_how_many_0_high_low_lot := kbn0 (ps := [Str.ofString "lot", Str.ofString "low", Str.ofString "high"]) F_how_many 0 [Str.ofString "high", Str.ofString "low", Str.ofString "lot"] (fun us ws => [ws.getD 2 .none, ws.getD 1 .none, ws.getD 0 .none]) (fun vs zs => [zs.getD 2 .non, zs.getD 1 .non, zs.getD 0 .non]) (fun r1 r2 => (.cons (vals_getD r2 2) (.cons (vals_getD r2 1) (.cons (vals_getD r2 0) .nil)))) fun _ _ _ _ _ _ us ws l1 l2 => match us, ws, l1, l2 with | [], [_, _, _], _, _ => rfl
  have tk := takes_of (X := cxOf (L2.CX P w) P w K mg base [Str.ofString "lot", Str.ofString "low", Str.ofString "high", Str.ofString "count", Str.ofString "total", Str.ofString "some", Str.ofString "number"] (Str.ofString "_law_stretch_right") (defScope s__law_stretch_right) a cdv A outer s H E) rfl rfl rfl rfl
  have hp := passes_of (X := cxOf (L2.CX P w) P w K mg base [Str.ofString "lot", Str.ofString "low", Str.ofString "high", Str.ofString "count", Str.ofString "total", Str.ofString "some", Str.ofString "number"] (Str.ofString "_law_stretch_right") (defScope s__law_stretch_right) a cdv A outer s H E) rfl
  exact (ds_cons (ds_par (i := 3) (j := 4) rfl sc__law_stretch_right.nd (by rfl) (by rfl) (by decide) (by rfl) (by rfl) (dv_of (de_call (gD := (fun ds es => [ds.getD 0 .non, ds.getD 1 .non, ds.getD 2 .non])) tk G__law_count (hr.mono (by first | decide | omega)) (by rfl) m__law_count k__law_count b__law_count_3 (fun _ _ _ _ _ _ h1 h2 => (Reps.cons (reps_getD h1 0) (Reps.cons (reps_getD h1 1) (Reps.cons (reps_getD h1 2) Reps.nil)))) (fun _ _ _ _ => rfl) (da_cons (dv 0) (da_cons (dv 1) (da_cons (dv 2) da_nil))) dk_nil)) (dv_of (de_call (gD := (fun ds es => [ds.getD 0 .non, ds.getD 1 .non, ds.getD 2 .non])) tk G__law_sum (hr.mono (by first | decide | omega)) (by rfl) m__law_sum k__law_sum b__law_sum_3 (fun _ _ _ _ _ _ h1 h2 => (Reps.cons (reps_getD h1 0) (Reps.cons (reps_getD h1 1) (Reps.cons (reps_getD h1 2) Reps.nil)))) (fun _ _ _ _ => rfl) (da_cons (dv 0) (da_cons (dv 1) (da_cons (dv 2) da_nil))) dk_nil)) (by rfl)) (ds_cons (ds_if (dt_cmp op_lt (opd_cmp _) (de_op op_sub opd_sub (dv 2) (dv 1)) de_int (nomark _)) (ds_cons (ds_setLc (i := 5) rfl sc__law_stretch_right.nd (by rfl) (by rfl) (sw_true rfl rfl rfl (by decide +kernel)) (di_rangeB (by rfl) T.z_range (da_cons (dv 1) (da_cons (de_op op_addA opd_add (dv 2) de_int) da_nil))) (blkOk_by (N := [Str.ofString "lot", Str.ofString "low", Str.ofString "high", Str.ofString "count", Str.ofString "total", Str.ofString "some", Str.ofString "number"]) (sc := defScope s__law_stretch_right) (own := [(Str.ofString "number", 6)]) (by decide +kernel)) (fun _ _ _ _ _ => (dg_name (i := 6) sc__law_stretch_right.nd (by rfl) (by first | exact Or.inl rfl | exact Or.inr rfl))) (fun _ _ _ _ _ => (dts_one (dt_truth (de_call (gD := (fun ds es => [ds.getD 0 .non, ds.getD 1 .non])) takes0 G__law_has (hr.mono (by first | decide | omega)) (by rfl) m__law_has k__law_has b__law_has_2 (fun _ _ _ _ _ _ h1 h2 => (Reps.cons (reps_getD h1 0) (Reps.cons (reps_getD h1 1) Reps.nil))) (fun _ _ _ _ => rfl) (da_cons (dv 0) (da_cons (dv 6) da_nil)) dk_nil)))) (fun _ _ _ _ _ => (dv 6))) (ds_one (ds_if (dt_cmp (op_neD hr.units) opd_ne (de_tup (da_cons (de_callB call_len cd_len (by rfl) T.z_len bt_len (da_cons (dv 5) da_nil)) (da_cons (de_callB (cr_sum rfl) cd_sum (by rfl) T.z_sum bt_sum (da_cons (dv 5) da_nil)) da_nil))) (de_tup (da_cons (dv 3) (da_cons (dv 4) da_nil))) (nomark _)) (ds_one (ds_ret de_bl)) ds_nil))) ds_nil) (ds_cons (ds_if (dt_not (dt_truth (de_call (gD := (fun ds es => [ds.getD 0 .non, ds.getD 1 .non])) tk G__law_is (hr.mono (by first | decide | omega)) (by rfl) m__law_is k__law_is b__law_is_2 (fun _ _ _ _ _ _ h1 h2 => (Reps.cons (reps_getD h1 0) (Reps.cons (reps_getD h1 1) Reps.nil))) (fun _ _ _ _ => rfl) (da_cons (de_tup (da_cons (de_call (gD := (fun ds es => [ds.getD 0 .non, ds.getD 1 .non, ds.getD 2 .non])) tk G_how_many (hr.mono (by first | decide | omega)) (by rfl) m_how_many k_how_many b_how_many_3 (fun _ _ _ _ _ _ h1 h2 => (Reps.cons (reps_getD h1 0) (Reps.cons (reps_getD h1 1) (Reps.cons (reps_getD h1 2) Reps.nil)))) (fun _ _ _ _ => rfl) (da_cons (dv 0) (da_cons (dv 1) (da_cons (dv 2) da_nil))) dk_nil) (da_cons (de_call (gD := (fun ds es => [ds.getD 0 .non, ds.getD 1 .non, ds.getD 2 .non])) tk G_sum_in (hr.mono (by first | decide | omega)) (by rfl) m_sum_in k_sum_in b_sum_in_3 (fun _ _ _ _ _ _ h1 h2 => (Reps.cons (reps_getD h1 0) (Reps.cons (reps_getD h1 1) (Reps.cons (reps_getD h1 2) Reps.nil)))) (fun _ _ _ _ => rfl) (da_cons (dv 0) (da_cons (dv 1) (da_cons (dv 2) da_nil))) dk_nil) (da_cons (de_call (gD := (fun ds es => [ds.getD 0 .non, ds.getD 1 .non, ds.getD 2 .non])) tk G_place_in (hr.mono (by first | decide | omega)) (by rfl) m_place_in k_place_in b_place_in_3 (fun _ _ _ _ _ _ h1 h2 => (Reps.cons (reps_getD h1 0) (Reps.cons (reps_getD h1 1) (Reps.cons (reps_getD h1 2) Reps.nil)))) (fun _ _ _ _ => rfl) (da_cons (dv 0) (da_cons (dv 1) (da_cons (dv 2) da_nil))) dk_nil) da_nil)))) (da_cons (de_tup (da_cons (dv 3) (da_cons (dv 4) (da_cons (de_call (gD := (fun ds es => [ds.getD 0 .non, ds.getD 1 .non, ds.getD 2 .non])) tk G__law_count (hr.mono (by first | decide | omega)) (by rfl) m__law_count k__law_count b__law_count_3 (fun _ _ _ _ _ _ h1 h2 => (Reps.cons (reps_getD h1 0) (Reps.cons (reps_getD h1 1) (Reps.cons (reps_getD h1 2) Reps.nil)))) (fun _ _ _ _ => rfl) (da_cons (dv 0) (da_cons (dv 1) (da_cons (de_op op_sub opd_sub (dv 2) de_int) da_nil))) dk_nil) da_nil)))) da_nil)) dk_nil))) (ds_one (ds_ret de_bl)) ds_nil) (ds_one (ds_ret (de_call (gD := (fun ds es => [ds.getD 0 .non, ds.getD 1 .non])) tk G__law_is (hr.mono (by first | decide | omega)) (by rfl) m__law_is k__law_is b__law_is_2 (fun _ _ _ _ _ _ h1 h2 => (Reps.cons (reps_getD h1 0) (Reps.cons (reps_getD h1 1) Reps.nil))) (fun _ _ _ _ => rfl) (da_cons (de_tup (da_cons (de_call0 (gD := (fun ds es => [es.getD 2 .non, es.getD 1 .non, es.getD 0 .non])) tk G_how_many (hr.mono (by first | decide | omega)) (by rfl) m_how_many k_how_many b_how_many_0_high_low_lot (fun _ _ _ _ _ _ h1 h2 => (Reps.cons (reps_getD h2 2) (Reps.cons (reps_getD h2 1) (Reps.cons (reps_getD h2 0) Reps.nil)))) (fun _ _ _ _ => rfl) (dk_cons (dv 2) (dk_cons (dv 1) (dk_cons (dv 0) dk_nil)))) (da_cons (de_call0 (gD := (fun ds es => [es.getD 1 .non, es.getD 2 .non, es.getD 0 .non])) tk G_sum_in (hr.mono (by first | decide | omega)) (by rfl) m_sum_in k_sum_in b_sum_in_0_high_lot_low (fun _ _ _ _ _ _ h1 h2 => (Reps.cons (reps_getD h2 1) (Reps.cons (reps_getD h2 2) (Reps.cons (reps_getD h2 0) Reps.nil)))) (fun _ _ _ _ => rfl) (dk_cons (dv 2) (dk_cons (dv 0) (dk_cons (dv 1) dk_nil)))) da_nil))) (da_cons (de_tup (da_cons (dv 3) (da_cons (dv 4) da_nil))) da_nil)) dk_nil))))))
end
end T79
set_option maxHeartbeats 4000000
namespace T79
open PySem PySem.Spec L2 DL
section
variable {P : Program} {w : World} {K : PySem.W.Frag} {mg : Str → Option Value} {base : Heap}
theorem sc__law_number_right : FnScope [Str.ofString "lot", Str.ofString "low", Str.ofString "at", Str.ofString "told", Str.ofString "wide"] [Str.ofString "lot", Str.ofString "low", Str.ofString "at"] (defScope s__law_number_right) := ⟨rfl, rfl, rfl, by decide +kernel, rfl, by decide +kernel, by decide +kernel⟩
theorem ok__law_number_right (T : Txt K mg) : Ok P w K mg base 10 (Str.ofString "_law_number_right") s__law_number_right [] [Str.ofString "lot", Str.ofString "low", Str.ofString "at"] p__law_number_right := by
  obtain ⟨a, fd, F, m⟩ := T.f__law_number_right
  refine ⟨a, fd, F, m, fn_D (k := 9) F sc__law_number_right fun cdv A outer s H E hr => ?_⟩
  obtain ⟨a__law_count, fd__law_count, F__law_count, m__law_count, G__law_count⟩ := ok__law_count (P := P) (w := w) (base := base) T
  have k__law_count := F__law_count.kp
  obtain ⟨a__law_has, fd__law_has, F__law_has, m__law_has, G__law_has⟩ := ok__law_has (P := P) (w := w) (base := base) T
  have k__law_has := F__law_has.kp
  obtain ⟨a__law_int, fd__law_int, F__law_int, m__law_int, G__law_int⟩ := ok__law_int (P := P) (w := w) (base := base) T
  have k__law_int := F__law_int.kp
  obtain ⟨a__law_is, fd__law_is, F__law_is, m__law_is, G__law_is⟩ := ok__law_is (P := P) (w := w) (base := base) T 8
  have k__law_is := F__law_is.kp
  obtain ⟨a_number_in, fd_number_in, F_number_in, m_number_in, G_number_in⟩ := ok_number_in (P := P) (w := w) (base := base) T
  have k_number_in := F_number_in.kp
  obtain ⟨a_place_in, fd_place_in, F_place_in, m_place_in, G_place_in⟩ := ok_place_in (P := P) (w := w) (base := base) T
  have k_place_in := F_place_in.kp
  have b_number_in_3 := kbn0 (ps := [Str.ofString "lot", Str.ofString "low", Str.ofString "at"]) F_number_in 3 [] (fun us ws => [us.getD 0 .none, us.getD 1 .none, us.getD 2 .none]) (fun vs zs => [vs.getD 0 .non, vs.getD 1 .non, vs.getD 2 .non]) (fun r1 r2 => (.cons (vals_getD r1 0) (.cons (vals_getD r1 1) (.cons (vals_getD r1 2) .nil)))) fun _ _ _ _ _ _ us ws l1 l2 => match us, ws, l1, l2 with | [_, _, _], [], _, _ => rfl
  have b__law_count_3 := kbn0 (ps := [Str.ofString "lot", Str.ofString "low", Str.ofString "high"]) F__law_count 3 [] (fun us ws => [us.getD 0 .none, us.getD 1 .none, us.getD 2 .none]) (fun vs zs => [vs.getD 0 .non, vs.getD 1 .non, vs.getD 2 .non]) (fun r1 r2 => (.cons (vals_getD r1 0) (.cons (vals_getD r1 1) (.cons (vals_getD r1 2) .nil)))) fun _ _ _ _ _ _ us ws l1 l2 => match us, ws, l1, l2 with | [_, _, _], [], _, _ => rfl
  have b__law_int_1 := kbn0 (ps := [Str.ofString "one"]) F__law_int 1 [] (fun us ws => [us.getD 0 .none]) (fun vs zs => [vs.getD 0 .non]) (fun r1 r2 => (.cons (vals_getD r1 0) .nil)) fun _ _ _ _ _ _ us ws l1 l2 => match us, ws, l1, l2 with | [_], [], _, _ => rfl
  have b__law_has_2 := kbn0 (ps := [Str.ofString "lot", Str.ofString "number"]) F__law_has 2 [] (fun us ws => [us.getD 0 .none, us.getD 1 .none]) (fun vs zs => [vs.getD 0 .non, vs.getD 1 .non]) (fun r1 r2 => (.cons (vals_getD r1 0) (.cons (vals_getD r1 1) .nil))) fun _ _ _ _ _ _ us ws l1 l2 => match us, ws, l1, l2 with | [_, _], [], _, _ => rfl
  have b__law_is_2 := kbn0 (ps := [Str.ofString "told", Str.ofString "due"]) F__law_is 2 [] (fun us ws => [us.getD 0 .none, us.getD 1 .none]) (fun vs zs => [vs.getD 0 .non, vs.getD 1 .non]) (fun r1 r2 => (.cons (vals_getD r1 0) (.cons (vals_getD r1 1) .nil))) fun _ _ _ _ _ _ us ws l1 l2 => match us, ws, l1, l2 with | [_, _], [], _, _ => rfl
  have b_place_in_3 := kbn0 (ps := [Str.ofString "lot", Str.ofString "low", Str.ofString "number"]) F_place_in 3 [] (fun us ws => [us.getD 0 .none, us.getD 1 .none, us.getD 2 .none]) (fun vs zs => [vs.getD 0 .non, vs.getD 1 .non, vs.getD 2 .non]) (fun r1 r2 => (.cons (vals_getD r1 0) (.cons (vals_getD r1 1) (.cons (vals_getD r1 2) .nil)))) fun _ _ _ _ _ _ us ws l1 l2 => match us, ws, l1, l2 with | [_, _, _], [], _, _ => rfl
  have b_number_in_0_at_low_lot := kbn0 (ps := [Str.ofString "lot", Str.ofString "low", Str.ofString "at"]) F_number_in 0 [Str.ofString "at", Str.ofString "low", Str.ofString "lot"] (fun us ws => [ws.getD 2 .none, ws.getD 1 .none, ws.getD 0 .none]) (fun vs zs => [zs.getD 2 .non, zs.getD 1 .non, zs.getD 0 .non]) (fun r1 r2 => (.cons (vals_getD r2 2) (.cons (vals_getD r2 1) (.cons (vals_getD r2 0) .nil)))) fun _ _ _ _ _ _ us ws l1 l2 => match us, ws, l1, l2 with | [], [_, _, _], _, _ => rfl
  have tk := takes_of (X := cxOf (L2.CX P w) P w K mg base [Str.ofString "lot", Str.ofString "low", Str.ofString "at", Str.ofString "told", Str.ofString "wide"] (Str.ofString "_law_number_right") (defScope s__law_number_right) a cdv A outer s H E) rfl rfl rfl rfl
  have hp := passes_of (X := cxOf (L2.CX P w) P w K mg base [Str.ofString "lot", Str.ofString "low", Str.ofString "at", Str.ofString "told", Str.ofString "wide"] (Str.ofString "_law_number_right") (defScope s__law_number_right) a cdv A outer s H E) rfl
  exact (ds_cons (ds_set (i := 3) sc__law_number_right.nd (by rfl) (by first | exact Or.inl rfl | exact Or.inr rfl) (dv_of (de_call (gD := (fun ds es => [ds.getD 0 .non, ds.getD 1 .non, ds.getD 2 .non])) tk G_number_in (hr.mono (by first | decide | omega)) (by rfl) m_number_in k_number_in b_number_in_3 (fun _ _ _ _ _ _ h1 h2 => (Reps.cons (reps_getD h1 0) (Reps.cons (reps_getD h1 1) (Reps.cons (reps_getD h1 2) Reps.nil)))) (fun _ _ _ _ => rfl) (da_cons (dv 0) (da_cons (dv 1) (da_cons (dv 2) da_nil))) dk_nil))) (ds_cons (ds_set (i := 4) sc__law_number_right.nd (by rfl) (by first | exact Or.inl rfl | exact Or.inr rfl) (dv_of (de_op op_addA opd_add (de_op op_addA opd_add (de_callB (call_max3Nu rfl) cd_max3 (by rfl) T.z_max bt_max (da_cons (de_callB call_abs cd_abs (by rfl) T.z_abs bt_abs (da_cons (de_ix (dv 0) de_int) da_nil)) (da_cons (de_callB call_abs cd_abs (by rfl) T.z_abs bt_abs (da_cons (de_ix (dv 0) de_int) da_nil)) (da_cons (de_callB call_abs cd_abs (by rfl) T.z_abs bt_abs (da_cons (dv 1) da_nil)) da_nil)))) (de_op op_mulD opd_mul (de_ix (dv 0) de_int) (de_op op_addA opd_add (dv 2) de_int))) de_int))) (ds_cons (ds_if (dt_cmp op_isC opd_is (dv 3) de_non (nomark _)) (ds_one (ds_ret (de_and (de_cmp (op_eqD hr.units) opd_eq (de_ix (dv 0) de_int) (de_tup da_nil) (nomark _)) (de_one (de_cmp op_le (opd_cmp _) (de_call (gD := (fun ds es => [ds.getD 0 .non, ds.getD 1 .non, ds.getD 2 .non])) tk G__law_count (hr.mono (by first | decide | omega)) (by rfl) m__law_count k__law_count b__law_count_3 (fun _ _ _ _ _ _ h1 h2 => (Reps.cons (reps_getD h1 0) (Reps.cons (reps_getD h1 1) (Reps.cons (reps_getD h1 2) Reps.nil)))) (fun _ _ _ _ => rfl) (da_cons (dv 0) (da_cons (dv 1) (da_cons (de_op op_addA opd_add (de_callB (call_max2 rfl) cd_max (by rfl) T.z_max bt_max (da_cons (de_ix (dv 0) de_int) (da_cons (dv 1) da_nil))) de_int) da_nil))) dk_nil) (dv 2) (nomark _)))))) ds_nil) (ds_cons (ds_if (dt_w (dw_or (dt_not (dt_truth (de_call (gD := (fun ds es => [ds.getD 0 .non])) tk G__law_int (hr.mono (by first | decide | omega)) (by rfl) m__law_int k__law_int b__law_int_1 (fun _ _ _ _ _ _ h1 h2 => (Reps.cons (reps_getD h1 0) Reps.nil)) (fun _ _ _ _ => rfl) (da_cons (dv 3) da_nil) dk_nil))) (dw_or (dt_cmp op_lt (opd_cmp _) (dv 3) (dv 1) (nomark _)) (dw_or (dt_not (dt_truth (de_call (gD := (fun ds es => [ds.getD 0 .non, ds.getD 1 .non])) tk G__law_has (hr.mono (by first | decide | omega)) (by rfl) m__law_has k__law_has b__law_has_2 (fun _ _ _ _ _ _ h1 h2 => (Reps.cons (reps_getD h1 0) (Reps.cons (reps_getD h1 1) Reps.nil))) (fun _ _ _ _ => rfl) (da_cons (dv 0) (da_cons (dv 3) da_nil)) dk_nil))) (dw_or1 (dt_cmp op_gt (opd_cmp _) (dv 3) (dv 4) (nomark _))))))) (ds_one (ds_ret de_bl)) ds_nil) (ds_cons (ds_if (dt_w (dw_and (dt_cmp op_lt (opd_cmp _) (de_callB call_abs cd_abs (by rfl) T.z_abs bt_abs (da_cons (dv 3) da_nil)) (de_op op_pow opd_pow de_int de_int) (nomark _)) (dw_and1 (dt_not (dt_truth (de_call (gD := (fun ds es => [ds.getD 0 .non, ds.getD 1 .non])) tk G__law_is (hr.mono (by first | decide | omega)) (by rfl) m__law_is k__law_is b__law_is_2 (fun _ _ _ _ _ _ h1 h2 => (Reps.cons (reps_getD h1 0) (Reps.cons (reps_getD h1 1) Reps.nil))) (fun _ _ _ _ => rfl) (da_cons (de_call (gD := (fun ds es => [ds.getD 0 .non, ds.getD 1 .non, ds.getD 2 .non])) tk G_place_in (hr.mono (by first | decide | omega)) (by rfl) m_place_in k_place_in b_place_in_3 (fun _ _ _ _ _ _ h1 h2 => (Reps.cons (reps_getD h1 0) (Reps.cons (reps_getD h1 1) (Reps.cons (reps_getD h1 2) Reps.nil)))) (fun _ _ _ _ => rfl) (da_cons (dv 0) (da_cons (dv 1) (da_cons (dv 3) da_nil))) dk_nil) (da_cons (dv 2) da_nil)) dk_nil)))))) (ds_one (ds_ret de_bl)) ds_nil) (ds_one (ds_ret (de_and (de_cmp (op_eqD hr.units) opd_eq (de_call (gD := (fun ds es => [ds.getD 0 .non, ds.getD 1 .non, ds.getD 2 .non])) tk G__law_count (hr.mono (by first | decide | omega)) (by rfl) m__law_count k__law_count b__law_count_3 (fun _ _ _ _ _ _ h1 h2 => (Reps.cons (reps_getD h1 0) (Reps.cons (reps_getD h1 1) (Reps.cons (reps_getD h1 2) Reps.nil)))) (fun _ _ _ _ => rfl) (da_cons (dv 0) (da_cons (dv 1) (da_cons (de_op op_sub opd_sub (dv 3) de_int) da_nil))) dk_nil) (dv 2) (nomark _)) (de_one (de_call (gD := (fun ds es => [ds.getD 0 .non, ds.getD 1 .non])) tk G__law_is (hr.mono (by first | decide | omega)) (by rfl) m__law_is k__law_is b__law_is_2 (fun _ _ _ _ _ _ h1 h2 => (Reps.cons (reps_getD h1 0) (Reps.cons (reps_getD h1 1) Reps.nil))) (fun _ _ _ _ => rfl) (da_cons (de_call0 (gD := (fun ds es => [es.getD 2 .non, es.getD 1 .non, es.getD 0 .non])) tk G_number_in (hr.mono (by first | decide | omega)) (by rfl) m_number_in k_number_in b_number_in_0_at_low_lot (fun _ _ _ _ _ _ h1 h2 => (Reps.cons (reps_getD h2 2) (Reps.cons (reps_getD h2 1) (Reps.cons (reps_getD h2 0) Reps.nil)))) (fun _ _ _ _ => rfl) (dk_cons (dv 2) (dk_cons (dv 1) (dk_cons (dv 0) dk_nil)))) (da_cons (dv 3) da_nil)) dk_nil))))))))))
theorem sc_law : FnScope [Str.ofString "script", Str.ofString "box", Str.ofString "turn", Str.ofString "lot", Str.ofString "more", Str.ofString "low", Str.ofString "high", Str.ofString "middle", Str.ofString "at", Str.ofString "second"] [Str.ofString "script"] (defScope s_law) := ⟨rfl, rfl, rfl, by decide +kernel, rfl, by decide +kernel, by decide +kernel⟩
theorem ok_law (T : Txt K mg) : Ok P w K mg base 11 (Str.ofString "law") s_law [] [Str.ofString "script"] p_law := by
  obtain ⟨a, fd, F, m⟩ := T.f_law
  refine ⟨a, fd, F, m, fn_D (k := 10) F sc_law fun cdv A outer s H E hr => ?_⟩
  obtain ⟨a__law_box, fd__law_box, F__law_box, m__law_box, G__law_box⟩ := ok__law_box (P := P) (w := w) (base := base) T
  have k__law_box := F__law_box.kp
  obtain ⟨a__law_drawn_lot, fd__law_drawn_lot, F__law_drawn_lot, m__law_drawn_lot, G__law_drawn_lot⟩ := ok__law_drawn_lot (P := P) (w := w) (base := base) T
  have k__law_drawn_lot := F__law_drawn_lot.kp
  obtain ⟨a__law_is, fd__law_is, F__law_is, m__law_is, G__law_is⟩ := ok__law_is (P := P) (w := w) (base := base) T 8
  have k__law_is := F__law_is.kp
  obtain ⟨a__law_number_right, fd__law_number_right, F__law_number_right, m__law_number_right, G__law_number_right⟩ := ok__law_number_right (P := P) (w := w) (base := base) T
  have k__law_number_right := F__law_number_right.kp
  obtain ⟨a__law_other_form, fd__law_other_form, F__law_other_form, m__law_other_form, G__law_other_form⟩ := ok__law_other_form (P := P) (w := w) (base := base) T
  have k__law_other_form := F__law_other_form.kp
  obtain ⟨a__law_pick, fd__law_pick, F__law_pick, m__law_pick, G__law_pick⟩ := ok__law_pick (P := P) (w := w) (base := base) T
  have k__law_pick := F__law_pick.kp
  obtain ⟨a__law_stretch_right, fd__law_stretch_right, F__law_stretch_right, m__law_stretch_right, G__law_stretch_right⟩ := ok__law_stretch_right (P := P) (w := w) (base := base) T
  have k__law_stretch_right := F__law_stretch_right.kp
  obtain ⟨a__law_take, fd__law_take, F__law_take, m__law_take, G__law_take⟩ := ok__law_take (P := P) (w := w) (base := base) T
  have k__law_take := F__law_take.kp
  obtain ⟨a__law_wide_number_of, fd__law_wide_number_of, F__law_wide_number_of, m__law_wide_number_of, G__law_wide_number_of⟩ := ok__law_wide_number_of (P := P) (w := w) (base := base) T
  have k__law_wide_number_of := F__law_wide_number_of.kp
  obtain ⟨a_how_many, fd_how_many, F_how_many, m_how_many, G_how_many⟩ := ok_how_many (P := P) (w := w) (base := base) T
  have k_how_many := F_how_many.kp
  obtain ⟨a_number_in, fd_number_in, F_number_in, m_number_in, G_number_in⟩ := ok_number_in (P := P) (w := w) (base := base) T
  have k_number_in := F_number_in.kp
  obtain ⟨a_place_in, fd_place_in, F_place_in, m_place_in, G_place_in⟩ := ok_place_in (P := P) (w := w) (base := base) T
  have k_place_in := F_place_in.kp
  obtain ⟨a_sum_in, fd_sum_in, F_sum_in, m_sum_in, G_sum_in⟩ := ok_sum_in (P := P) (w := w) (base := base) T
  have k_sum_in := F_sum_in.kp
  have b__law_box_2 := kbn0 (ps := [Str.ofString "script", Str.ofString "salt"]) F__law_box 2 [] (fun us ws => [us.getD 0 .none, us.getD 1 .none]) (fun vs zs => [vs.getD 0 .non, vs.getD 1 .non]) (fun r1 r2 => (.cons (vals_getD r1 0) (.cons (vals_getD r1 1) .nil))) fun _ _ _ _ _ _ us ws l1 l2 => match us, ws, l1, l2 with | [_, _], [], _, _ => rfl
  have b__law_drawn_lot_2 := kbn0 (ps := [Str.ofString "box", Str.ofString "far"]) F__law_drawn_lot 2 [] (fun us ws => [us.getD 0 .none, us.getD 1 .none]) (fun vs zs => [vs.getD 0 .non, vs.getD 1 .non]) (fun r1 r2 => (.cons (vals_getD r1 0) (.cons (vals_getD r1 1) .nil))) fun _ _ _ _ _ _ us ws l1 l2 => match us, ws, l1, l2 with | [_, _], [], _, _ => rfl
  have b__law_pick_2 := kbn0 (ps := [Str.ofString "box", Str.ofString "some"]) F__law_pick 2 [] (fun us ws => [us.getD 0 .none, us.getD 1 .none]) (fun vs zs => [vs.getD 0 .non, vs.getD 1 .non]) (fun r1 r2 => (.cons (vals_getD r1 0) (.cons (vals_getD r1 1) .nil))) fun _ _ _ _ _ _ us ws l1 l2 => match us, ws, l1, l2 with | [_, _], [], _, _ => rfl
  have b__law_take_2 := kbn0 (ps := [Str.ofString "box", Str.ofString "many"]) F__law_take 2 [] (fun us ws => [us.getD 0 .none, us.getD 1 .none]) (fun vs zs => [vs.getD 0 .non, vs.getD 1 .non]) (fun r1 r2 => (.cons (vals_getD r1 0) (.cons (vals_getD r1 1) .nil))) fun _ _ _ _ _ _ us ws l1 l2 => match us, ws, l1, l2 with | [_, _], [], _, _ => rfl
  have b__law_other_form_2 := kbn0 (ps := [Str.ofString "box", Str.ofString "lot"]) F__law_other_form 2 [] (fun us ws => [us.getD 0 .none, us.getD 1 .none]) (fun vs zs => [vs.getD 0 .non, vs.getD 1 .non]) (fun r1 r2 => (.cons (vals_getD r1 0) (.cons (vals_getD r1 1) .nil))) fun _ _ _ _ _ _ us ws l1 l2 => match us, ws, l1, l2 with | [_, _], [], _, _ => rfl
  have b__law_wide_number_of_1 := kbn0 (ps := [Str.ofString "box"]) F__law_wide_number_of 1 [] (fun us ws => [us.getD 0 .none]) (fun vs zs => [vs.getD 0 .non]) (fun r1 r2 => (.cons (vals_getD r1 0) .nil)) fun _ _ _ _ _ _ us ws l1 l2 => match us, ws, l1, l2 with | [_], [], _, _ => rfl
  have b__law_stretch_right_3 := kbn0 (ps := [Str.ofString "lot", Str.ofString "low", Str.ofString "high"]) F__law_stretch_right 3 [] (fun us ws => [us.getD 0 .none, us.getD 1 .none, us.getD 2 .none]) (fun vs zs => [vs.getD 0 .non, vs.getD 1 .non, vs.getD 2 .non]) (fun r1 r2 => (.cons (vals_getD r1 0) (.cons (vals_getD r1 1) (.cons (vals_getD r1 2) .nil)))) fun _ _ _ _ _ _ us ws l1 l2 => match us, ws, l1, l2 with | [_, _, _], [], _, _ => rfl
  have b_how_many_3 := kbn0 (ps := [Str.ofString "lot", Str.ofString "low", Str.ofString "high"]) F_how_many 3 [] (fun us ws => [us.getD 0 .none, us.getD 1 .none, us.getD 2 .none]) (fun vs zs => [vs.getD 0 .non, vs.getD 1 .non, vs.getD 2 .non]) (fun r1 r2 => (.cons (vals_getD r1 0) (.cons (vals_getD r1 1) (.cons (vals_getD r1 2) .nil)))) fun _ _ _ _ _ _ us ws l1 l2 => match us, ws, l1, l2 with | [_, _, _], [], _, _ => rfl
  have b__law_is_2 := kbn0 (ps := [Str.ofString "told", Str.ofString "due"]) F__law_is 2 [] (fun us ws => [us.getD 0 .none, us.getD 1 .none]) (fun vs zs => [vs.getD 0 .non, vs.getD 1 .non]) (fun r1 r2 => (.cons (vals_getD r1 0) (.cons (vals_getD r1 1) .nil))) fun _ _ _ _ _ _ us ws l1 l2 => match us, ws, l1, l2 with | [_, _], [], _, _ => rfl
  have b_sum_in_3 := kbn0 (ps := [Str.ofString "lot", Str.ofString "low", Str.ofString "high"]) F_sum_in 3 [] (fun us ws => [us.getD 0 .none, us.getD 1 .none, us.getD 2 .none]) (fun vs zs => [vs.getD 0 .non, vs.getD 1 .non, vs.getD 2 .non]) (fun r1 r2 => (.cons (vals_getD r1 0) (.cons (vals_getD r1 1) (.cons (vals_getD r1 2) .nil)))) fun _ _ _ _ _ _ us ws l1 l2 => match us, ws, l1, l2 with | [_, _, _], [], _, _ => rfl
  have b__law_number_right_3 := kbn0 (ps := [Str.ofString "lot", Str.ofString "low", Str.ofString "at"]) F__law_number_right 3 [] (fun us ws => [us.getD 0 .none, us.getD 1 .none, us.getD 2 .none]) (fun vs zs => [vs.getD 0 .non, vs.getD 1 .non, vs.getD 2 .non]) (fun r1 r2 => (.cons (vals_getD r1 0) (.cons (vals_getD r1 1) (.cons (vals_getD r1 2) .nil)))) fun _ _ _ _ _ _ us ws l1 l2 => match us, ws, l1, l2 with | [_, _, _], [], _, _ => rfl
  have b_place_in_3 := kbn0 (ps := [Str.ofString "lot", Str.ofString "low", Str.ofString "number"]) F_place_in 3 [] (fun us ws => [us.getD 0 .none, us.getD 1 .none, us.getD 2 .none]) (fun vs zs => [vs.getD 0 .non, vs.getD 1 .non, vs.getD 2 .non]) (fun r1 r2 => (.cons (vals_getD r1 0) (.cons (vals_getD r1 1) (.cons (vals_getD r1 2) .nil)))) fun _ _ _ _ _ _ us ws l1 l2 => match us, ws, l1, l2 with | [_, _, _], [], _, _ => rfl
  have b_number_in_3 := kbn0 (ps := [Str.ofString "lot", Str.ofString "low", Str.ofString "at"]) F_number_in 3 [] (fun us ws => [us.getD 0 .none, us.getD 1 .none, us.getD 2 .none]) (fun vs zs => [vs.getD 0 .non, vs.getD 1 .non, vs.getD 2 .non]) (fun r1 r2 => (.cons (vals_getD r1 0) (.cons (vals_getD r1 1) (.cons (vals_getD r1 2) .nil)))) fun _ _ _ _ _ _ us ws l1 l2 => match us, ws, l1, l2 with | [_, _, _], [], _, _ => rfl
  have tk := takes_of (X := cxOf (L2.CX P w) P w K mg base [Str.ofString "script", Str.ofString "box", Str.ofString "turn", Str.ofString "lot", Str.ofString "more", Str.ofString "low", Str.ofString "high", Str.ofString "middle", Str.ofString "at", Str.ofString "second"] (Str.ofString "law") (defScope s_law) a cdv A outer s H E) rfl rfl rfl rfl
  have hp := passes_of (X := cxOf (L2.CX P w) P w K mg base [Str.ofString "script", Str.ofString "box", Str.ofString "turn", Str.ofString "lot", Str.ofString "more", Str.ofString "low", Str.ofString "high", Str.ofString "middle", Str.ofString "at", Str.ofString "second"] (Str.ofString "law") (defScope s_law) a cdv A outer s H E) rfl
  exact (ds_cons (ds_set (i := 1) sc_law.nd (by rfl) (by first | exact Or.inl rfl | exact Or.inr rfl) (dv_of (de_call (gD := (fun ds es => [ds.getD 0 .non, ds.getD 1 .non])) tk G__law_box (hr.mono (by first | decide | omega)) (by rfl) m__law_box k__law_box b__law_box_2 (fun _ _ _ _ _ _ h1 h2 => (Reps.cons (reps_getD h1 0) (Reps.cons (reps_getD h1 1) Reps.nil))) (fun _ _ _ _ => rfl) (da_cons (dv 0) (da_cons de_int da_nil)) dk_nil))) (ds_cons (ds_for hp rfl (di_range1 (by rfl) T.z_range (da_cons de_int da_nil)) (dg_name (i := 2) sc_law.nd (by rfl) (by first | exact Or.inl rfl | exact Or.inr rfl)) (ds_cons (ds_set (i := 3) sc_law.nd (by rfl) (by first | exact Or.inl rfl | exact Or.inr rfl) (dv_of (de_call (gD := (fun ds es => [ds.getD 0 .non, ds.getD 1 .non])) tk G__law_drawn_lot (hr.mono (by first | decide | omega)) (by rfl) m__law_drawn_lot k__law_drawn_lot b__law_drawn_lot_2 (fun _ _ _ _ _ _ h1 h2 => (Reps.cons (reps_getD h1 0) (Reps.cons (reps_getD h1 1) Reps.nil))) (fun _ _ _ _ => rfl) (da_cons (dv 1) (da_cons (de_call (gD := (fun ds es => [ds.getD 0 .non, ds.getD 1 .non])) tk G__law_pick (hr.mono (by first | decide | omega)) (by rfl) m__law_pick k__law_pick b__law_pick_2 (fun _ _ _ _ _ _ h1 h2 => (Reps.cons (reps_getD h1 0) (Reps.cons (reps_getD h1 1) Reps.nil))) (fun _ _ _ _ => rfl) (da_cons (dv 1) (da_cons (de_lst (da_cons de_int (da_cons de_int (da_cons de_int da_nil)))) da_nil)) dk_nil) da_nil)) dk_nil))) (ds_cons (ds_if (dt_cmp (op_eqD hr.units) opd_eq (de_call (gD := (fun ds es => [ds.getD 0 .non, ds.getD 1 .non])) tk G__law_take (hr.mono (by first | decide | omega)) (by rfl) m__law_take k__law_take b__law_take_2 (fun _ _ _ _ _ _ h1 h2 => (Reps.cons (reps_getD h1 0) (Reps.cons (reps_getD h1 1) Reps.nil))) (fun _ _ _ _ => rfl) (da_cons (dv 1) (da_cons de_int da_nil)) dk_nil) de_int (nomark _)) (ds_one (ds_set (i := 3) sc_law.nd (by rfl) (by first | exact Or.inl rfl | exact Or.inr rfl) (dv_of (de_call (gD := (fun ds es => [ds.getD 0 .non, ds.getD 1 .non])) tk G__law_other_form (hr.mono (by first | decide | omega)) (by rfl) m__law_other_form k__law_other_form b__law_other_form_2 (fun _ _ _ _ _ _ h1 h2 => (Reps.cons (reps_getD h1 0) (Reps.cons (reps_getD h1 1) Reps.nil))) (fun _ _ _ _ => rfl) (da_cons (dv 1) (da_cons (dv 3) da_nil)) dk_nil)))) ds_nil) (ds_one (ds_for hp rfl (di_range1 (by rfl) T.z_range (da_cons de_int da_nil)) (dg_name (i := 4) sc_law.nd (by rfl) (by first | exact Or.inl rfl | exact Or.inr rfl)) (ds_cons (ds_set (i := 5) sc_law.nd (by rfl) (by first | exact Or.inl rfl | exact Or.inr rfl) (dv_of (de_call (gD := (fun ds es => [ds.getD 0 .non])) tk G__law_wide_number_of (hr.mono (by first | decide | omega)) (by rfl) m__law_wide_number_of k__law_wide_number_of b__law_wide_number_of_1 (fun _ _ _ _ _ _ h1 h2 => (Reps.cons (reps_getD h1 0) Reps.nil)) (fun _ _ _ _ => rfl) (da_cons (dv 1) da_nil) dk_nil))) (ds_cons (ds_set (i := 6) sc_law.nd (by rfl) (by first | exact Or.inl rfl | exact Or.inr rfl) (dv_of (de_call (gD := (fun ds es => [ds.getD 0 .non, ds.getD 1 .non])) tk G__law_pick (hr.mono (by first | decide | omega)) (by rfl) m__law_pick k__law_pick b__law_pick_2 (fun _ _ _ _ _ _ h1 h2 => (Reps.cons (reps_getD h1 0) (Reps.cons (reps_getD h1 1) Reps.nil))) (fun _ _ _ _ => rfl) (da_cons (dv 1) (da_cons (de_lst (da_cons (de_call (gD := (fun ds es => [ds.getD 0 .non])) tk G__law_wide_number_of (hr.mono (by first | decide | omega)) (by rfl) m__law_wide_number_of k__law_wide_number_of b__law_wide_number_of_1 (fun _ _ _ _ _ _ h1 h2 => (Reps.cons (reps_getD h1 0) Reps.nil)) (fun _ _ _ _ => rfl) (da_cons (dv 1) da_nil) dk_nil) (da_cons (de_op op_addA opd_add (dv 5) (de_call (gD := (fun ds es => [ds.getD 0 .non, ds.getD 1 .non])) tk G__law_take (hr.mono (by first | decide | omega)) (by rfl) m__law_take k__law_take b__law_take_2 (fun _ _ _ _ _ _ h1 h2 => (Reps.cons (reps_getD h1 0) (Reps.cons (reps_getD h1 1) Reps.nil))) (fun _ _ _ _ => rfl) (da_cons (dv 1) (da_cons de_int da_nil)) dk_nil)) (da_cons (de_op op_sub opd_sub (dv 5) de_int) (da_cons (dv 5) da_nil))))) da_nil)) dk_nil))) (ds_cons (ds_if (dt_not (dt_truth (de_call (gD := (fun ds es => [ds.getD 0 .non, ds.getD 1 .non, ds.getD 2 .non])) tk G__law_stretch_right (hr.mono (by first | decide | omega)) (by rfl) m__law_stretch_right k__law_stretch_right b__law_stretch_right_3 (fun _ _ _ _ _ _ h1 h2 => (Reps.cons (reps_getD h1 0) (Reps.cons (reps_getD h1 1) (Reps.cons (reps_getD h1 2) Reps.nil)))) (fun _ _ _ _ => rfl) (da_cons (dv 3) (da_cons (dv 5) (da_cons (dv 6) da_nil))) dk_nil))) (ds_one (ds_ret de_bl)) ds_nil) (ds_cons (ds_set (i := 7) sc_law.nd (by rfl) (by first | exact Or.inl rfl | exact Or.inr rfl) (dv_of (de_call (gD := (fun ds es => [ds.getD 0 .non])) tk G__law_wide_number_of (hr.mono (by first | decide | omega)) (by rfl) m__law_wide_number_of k__law_wide_number_of b__law_wide_number_of_1 (fun _ _ _ _ _ _ h1 h2 => (Reps.cons (reps_getD h1 0) Reps.nil)) (fun _ _ _ _ => rfl) (da_cons (dv 1) da_nil) dk_nil))) (ds_cons (ds_if (dt_w (dw_and (dt_chain op_le op_lt (opd_cmp _) (opd_cmp _) (dv 5) (dv 7) (dv 6)) (dw_and1 (dt_cmp (op_neD hr.units) opd_ne (de_call (gD := (fun ds es => [ds.getD 0 .non, ds.getD 1 .non, ds.getD 2 .non])) tk G_how_many (hr.mono (by first | decide | omega)) (by rfl) m_how_many k_how_many b_how_many_3 (fun _ _ _ _ _ _ h1 h2 => (Reps.cons (reps_getD h1 0) (Reps.cons (reps_getD h1 1) (Reps.cons (reps_getD h1 2) Reps.nil)))) (fun _ _ _ _ => rfl) (da_cons (dv 3) (da_cons (dv 5) (da_cons (dv 6) da_nil))) dk_nil) (de_op op_addA opd_add (de_call (gD := (fun ds es => [ds.getD 0 .non, ds.getD 1 .non, ds.getD 2 .non])) tk G_how_many (hr.mono (by first | decide | omega)) (by rfl) m_how_many k_how_many b_how_many_3 (fun _ _ _ _ _ _ h1 h2 => (Reps.cons (reps_getD h1 0) (Reps.cons (reps_getD h1 1) (Reps.cons (reps_getD h1 2) Reps.nil)))) (fun _ _ _ _ => rfl) (da_cons (dv 3) (da_cons (dv 5) (da_cons (dv 7) da_nil))) dk_nil) (de_call (gD := (fun ds es => [ds.getD 0 .non, ds.getD 1 .non, ds.getD 2 .non])) tk G_how_many (hr.mono (by first | decide | omega)) (by rfl) m_how_many k_how_many b_how_many_3 (fun _ _ _ _ _ _ h1 h2 => (Reps.cons (reps_getD h1 0) (Reps.cons (reps_getD h1 1) (Reps.cons (reps_getD h1 2) Reps.nil)))) (fun _ _ _ _ => rfl) (da_cons (dv 3) (da_cons (de_op op_addA opd_add (dv 7) de_int) (da_cons (dv 6) da_nil))) dk_nil)) (nomark _))))) (ds_one (ds_ret de_bl)) ds_nil) (ds_cons (ds_if (dt_w (dw_and (dt_cmp op_gt (opd_cmp _) (dv 5) (dv 6) (nomark _)) (dw_and1 (dt_not (dt_truth (de_call (gD := (fun ds es => [ds.getD 0 .non, ds.getD 1 .non])) tk G__law_is (hr.mono (by first | decide | omega)) (by rfl) m__law_is k__law_is b__law_is_2 (fun _ _ _ _ _ _ h1 h2 => (Reps.cons (reps_getD h1 0) (Reps.cons (reps_getD h1 1) Reps.nil))) (fun _ _ _ _ => rfl) (da_cons (de_tup (da_cons (de_call (gD := (fun ds es => [ds.getD 0 .non, ds.getD 1 .non, ds.getD 2 .non])) tk G_how_many (hr.mono (by first | decide | omega)) (by rfl) m_how_many k_how_many b_how_many_3 (fun _ _ _ _ _ _ h1 h2 => (Reps.cons (reps_getD h1 0) (Reps.cons (reps_getD h1 1) (Reps.cons (reps_getD h1 2) Reps.nil)))) (fun _ _ _ _ => rfl) (da_cons (dv 3) (da_cons (dv 5) (da_cons (dv 6) da_nil))) dk_nil) (da_cons (de_call (gD := (fun ds es => [ds.getD 0 .non, ds.getD 1 .non, ds.getD 2 .non])) tk G_sum_in (hr.mono (by first | decide | omega)) (by rfl) m_sum_in k_sum_in b_sum_in_3 (fun _ _ _ _ _ _ h1 h2 => (Reps.cons (reps_getD h1 0) (Reps.cons (reps_getD h1 1) (Reps.cons (reps_getD h1 2) Reps.nil)))) (fun _ _ _ _ => rfl) (da_cons (dv 3) (da_cons (dv 5) (da_cons (dv 6) da_nil))) dk_nil) da_nil))) (da_cons (de_tup (da_cons de_int (da_cons de_int da_nil))) da_nil)) dk_nil)))))) (ds_one (ds_ret de_bl)) ds_nil) (ds_one (ds_for hp rfl (di_seq (de_tup (da_cons de_int (da_cons (de_call (gD := (fun ds es => [ds.getD 0 .non, ds.getD 1 .non])) tk G__law_take (hr.mono (by first | decide | omega)) (by rfl) m__law_take k__law_take b__law_take_2 (fun _ _ _ _ _ _ h1 h2 => (Reps.cons (reps_getD h1 0) (Reps.cons (reps_getD h1 1) Reps.nil))) (fun _ _ _ _ => rfl) (da_cons (dv 1) (da_cons de_int da_nil)) dk_nil) (da_cons (de_op op_addA opd_add (de_op op_pow opd_pow de_int de_int) (de_call (gD := (fun ds es => [ds.getD 0 .non, ds.getD 1 .non])) tk G__law_take (hr.mono (by first | decide | omega)) (by rfl) m__law_take k__law_take b__law_take_2 (fun _ _ _ _ _ _ h1 h2 => (Reps.cons (reps_getD h1 0) (Reps.cons (reps_getD h1 1) Reps.nil))) (fun _ _ _ _ => rfl) (da_cons (dv 1) (da_cons (de_op op_pow opd_pow de_int de_int) da_nil)) dk_nil)) (da_cons (de_op op_sub opd_sub (de_op op_sub opd_sub (de_op op_pow opd_pow de_int de_int) de_int) (de_call (gD := (fun ds es => [ds.getD 0 .non, ds.getD 1 .non])) tk G__law_take (hr.mono (by first | decide | omega)) (by rfl) m__law_take k__law_take b__law_take_2 (fun _ _ _ _ _ _ h1 h2 => (Reps.cons (reps_getD h1 0) (Reps.cons (reps_getD h1 1) Reps.nil))) (fun _ _ _ _ => rfl) (da_cons (dv 1) (da_cons de_int da_nil)) dk_nil)) da_nil)))))) (dg_name (i := 8) sc_law.nd (by rfl) (by first | exact Or.inl rfl | exact Or.inr rfl)) (ds_one (ds_if (dt_not (dt_truth (de_call (gD := (fun ds es => [ds.getD 0 .non, ds.getD 1 .non, ds.getD 2 .non])) tk G__law_number_right (hr.mono (by first | decide | omega)) (by rfl) m__law_number_right k__law_number_right b__law_number_right_3 (fun _ _ _ _ _ _ h1 h2 => (Reps.cons (reps_getD h1 0) (Reps.cons (reps_getD h1 1) (Reps.cons (reps_getD h1 2) Reps.nil)))) (fun _ _ _ _ => rfl) (da_cons (dv 3) (da_cons (dv 5) (da_cons (dv 8) da_nil))) dk_nil))) (ds_one (ds_ret de_bl)) ds_nil))))))))))))))) (ds_cons (ds_set (i := 9) sc_law.nd (by rfl) (by first | exact Or.inl rfl | exact Or.inr rfl) (dv_of (de_tup (da_cons de_int (da_cons (de_tup (da_cons de_int (da_cons de_int (da_cons de_int da_nil)))) (da_cons de_int (da_cons (de_tup da_nil) (da_cons de_int (da_cons (de_tup (da_cons de_int (da_cons de_int da_nil))) da_nil))))))))) (ds_one (ds_ret (de_call (gD := (fun ds es => [ds.getD 0 .non, ds.getD 1 .non])) tk G__law_is (hr.mono (by first | decide | omega)) (by rfl) m__law_is k__law_is b__law_is_2 (fun _ _ _ _ _ _ h1 h2 => (Reps.cons (reps_getD h1 0) (Reps.cons (reps_getD h1 1) Reps.nil))) (fun _ _ _ _ => rfl) (da_cons (de_tup (da_cons (de_call (gD := (fun ds es => [ds.getD 0 .non, ds.getD 1 .non, ds.getD 2 .non])) tk G_how_many (hr.mono (by first | decide | omega)) (by rfl) m_how_many k_how_many b_how_many_3 (fun _ _ _ _ _ _ h1 h2 => (Reps.cons (reps_getD h1 0) (Reps.cons (reps_getD h1 1) (Reps.cons (reps_getD h1 2) Reps.nil)))) (fun _ _ _ _ => rfl) (da_cons (dv 9) (da_cons (de_un un_neg und_neg de_int) (da_cons de_int da_nil))) dk_nil) (da_cons (de_call (gD := (fun ds es => [ds.getD 0 .non, ds.getD 1 .non, ds.getD 2 .non])) tk G_number_in (hr.mono (by first | decide | omega)) (by rfl) m_number_in k_number_in b_number_in_3 (fun _ _ _ _ _ _ h1 h2 => (Reps.cons (reps_getD h1 0) (Reps.cons (reps_getD h1 1) (Reps.cons (reps_getD h1 2) Reps.nil)))) (fun _ _ _ _ => rfl) (da_cons (dv 9) (da_cons (de_un un_neg und_neg de_int) (da_cons de_int da_nil))) dk_nil) (da_cons (de_call (gD := (fun ds es => [ds.getD 0 .non, ds.getD 1 .non, ds.getD 2 .non])) tk G_place_in (hr.mono (by first | decide | omega)) (by rfl) m_place_in k_place_in b_place_in_3 (fun _ _ _ _ _ _ h1 h2 => (Reps.cons (reps_getD h1 0) (Reps.cons (reps_getD h1 1) (Reps.cons (reps_getD h1 2) Reps.nil)))) (fun _ _ _ _ => rfl) (da_cons (dv 9) (da_cons (de_un un_neg und_neg de_int) (da_cons de_int da_nil))) dk_nil) (da_cons (de_call (gD := (fun ds es => [ds.getD 0 .non, ds.getD 1 .non, ds.getD 2 .non])) tk G_sum_in (hr.mono (by first | decide | omega)) (by rfl) m_sum_in k_sum_in b_sum_in_3 (fun _ _ _ _ _ _ h1 h2 => (Reps.cons (reps_getD h1 0) (Reps.cons (reps_getD h1 1) (Reps.cons (reps_getD h1 2) Reps.nil)))) (fun _ _ _ _ => rfl) (da_cons (dv 9) (da_cons (de_un un_neg und_neg de_int) (da_cons de_int da_nil))) dk_nil) da_nil))))) (da_cons (de_tup (da_cons de_int (da_cons de_int (da_cons de_int (da_cons (de_un un_neg und_neg de_int) da_nil))))) da_nil)) dk_nil))))))
end
end T79
set_option maxHeartbeats 2000000
namespace DL
open PySem PySem.Spec L2
/-! ### reading the mirrors -/
section
variable {e : Ev} {S : Sto} {β γ : Type}
@[simp] theorem x_seq (g1 g2 : GS) : gSeq g1 g2 e S = (match g1 e S with
  | .ok (.nx e1) S1 => g2 e1 S1
  | r => r) := rfl
@[simp] theorem x_next : gNext e S = .ok (.nx e) S := rfl
@[simp] theorem x_ret (g : GE) : gRet g e S = gE (g e S) e fun d S1 => .ok (.rt d) S1 := rfl
@[simp] theorem x_drop (g : GE) : gDrop g e S = gE (g e S) e fun _ S1 => .ok (.nx e) S1 := rfl
@[simp] theorem x_ifs (t : GT) (g u : GS) : gIfS t g u e S = gE (t e S) e fun k S1 => if k = true then g e S1 else u e S1 := rfl
@[simp] theorem x_set (i : Nat) (g : GV) : gSet i g e S = gE (g e S) e fun sl S1 => .ok (.nx (e.set i sl)) S1 := rfl
@[simp] theorem x_par (i j : Nat) (g1 g2 : GV) : gPar i j g1 g2 e S = gE (g1 e S) e fun s1 S1 => gE (g2 e S1) e fun s2 S2 => .ok (.nx ((e.set i s1).set j s2)) S2 := rfl
@[simp] theorem x_dat (g : GE) : gDat g e S = (g e S).bind fun d S1 => .ok (.dat d) S1 := rfl
@[simp] theorem x_ownL (g : GA) : gOwnL g e S = (g e S).bind fun as S1 => if as.length ≤ line then .ok (.own as) S1 else .stuck := rfl
@[simp] theorem x_frz (i : Nat) (g : GS) : gFrz i g e S = (match frz e i with
  | some e' => g e' S
  | none => .stuck) := rfl
@[simp] theorem x_app (i : Nat) (g : GE) : gApp i g e S = (match ownAt e i with
  | none => .stuck
  | some ds => gE (g e S) e fun d S1 => if ds.length < line then .ok (.nx (e.set i (.own (ds ++ [d])))) S1 else .stuck) := rfl
@[simp] theorem x_setOwn (i : Nat) (gi g : GE) : gSetOwn i gi g e S = (match ownAt e i with
  | none => .stuck
  | some ds => gE (g e S) e fun d S1 => gE (gi e S1) e fun k S2 => match k with
    | .int z => match ixN ds.length z with
      | some j => .ok (.nx (e.set i (.own (ds.set j d)))) S2
      | none => .stuck
    | _ => .stuck) := rfl
@[simp] theorem x_setSto (go gi g : GE) : gSetSto go gi g e S = gE (g e S) e fun d S1 => gE (go e S1) e fun o S2 => gE (gi e S2) e fun k S3 => (match o, k with
  | .ref n, .int z => match lstAt S3 n with
    | some ds => match ixN ds.length z with
      | some j => .ok (.nx e) (S3.set n (.lst (ds.set j d)))
      | none => .stuck
    | none => .stuck
  | _, _ => .stuck) := rfl
@[simp] theorem x_aug (i : Nat) (f : Sto → D → D → Option D) (g : GE) : gAug i f g e S = (match e[i]? with
  | some (.dat x) => gE (g e S) e fun y S1 => match f S1 x y with
    | some z => .ok (.nx (e.set i (.dat z))) S1
    | none => .stuck
  | _ => .stuck) := rfl
@[simp] theorem x_ixOwn (i : Nat) (g : GE) : gIxOwn i g e S = (match ownAt e i with
  | none => .stuck
  | some ds => (g e S).bind fun k S1 => lift (ixD S1 (.lst ds) k) S1) := rfl
@[simp] theorem x_asg (t : D → Ev → Option Ev) (g : GE) : gAsg t g e S = gE (g e S) e fun d S1 => (match t d e with
  | some e' => .ok (.nx e') S1
  | none => .stuck) := rfl
@[simp] theorem x_tname (i : Nat) (d : D) : gtName i d e = some (e.set i (.dat d)) := rfl
@[simp] theorem x_tsnil : gtsNil [] e = some e := rfl
@[simp] theorem x_tscons (t : D → Ev → Option Ev) (u : List D → Ev → Option Ev) (d : D) (r : List D) : gtsCons t u (d :: r) e = (t d e).bind fun e1 => u r e1 := rfl
@[simp] theorem x_ttup (n : Nat) (t : List D → Ev → Option Ev) (ds : List D) : gtTup n t (.tup ds) e = if ds.length = n then t ds e else none := rfl
@[simp] theorem x_var (i : Nat) : gVar i e S = (match e[i]? with
  | some (.dat d) => .ok d S
  | _ => .stuck) := rfl
@[simp] theorem x_c (d : D) : gC d e S = .ok d S := rfl
@[simp] theorem x_op (f : Sto → D → D → Option D) (ga gb : GE) : gOp f ga gb e S = (ga e S).bind fun a S1 => (gb e S1).bind fun b S2 => lift (f S2 a b) S2 := rfl
@[simp] theorem x_un (f : Sto → D → Option D) (ga : GE) : gUn f ga e S = (ga e S).bind fun a S1 => lift (f S1 a) S1 := rfl
@[simp] theorem x_test (g : GE) : gTest g e S = (g e S).bind fun a S1 => lift (blOf a) S1 := rfl
@[simp] theorem x_tru (g : GE) : gTru g e S = (g e S).bind fun a S1 => lift (truD S1 a) S1 := rfl
@[simp] theorem x_chain (f f' : Sto → D → D → Option D) (ga gb gc : GE) : gChain f f' ga gb gc e S = (ga e S).bind fun a S1 => (gb e S1).bind fun b S2 => (lift ((f S2 a b).bind blOf) S2).bind fun k S3 =>
  if k = true then (gc e S3).bind fun c S4 => lift (f' S4 b c) S4 else .ok (.bl false) S3 := rfl
@[simp] theorem x_andT (t u : GT) : gAndT t u e S = (t e S).bind fun b S1 => if b = true then u e S1 else .ok false S1 := rfl
@[simp] theorem x_orT (t u : GT) : gOrT t u e S = (t e S).bind fun b S1 => if b = true then .ok true S1 else u e S1 := rfl
@[simp] theorem x_notT (t : GT) : gNotT t e S = (t e S).bind fun b S1 => .ok (!b) S1 := rfl
@[simp] theorem x_andV (g u : GE) : gAndV g u e S = (g e S).bind fun a S1 => (lift (blOf a) S1).bind fun k S2 => if k = true then u e S2 else .ok (.bl false) S2 := rfl
@[simp] theorem x_notV (g : GE) : gNotV g e S = (g e S).bind fun a S1 => (lift (blOf a) S1).bind fun k S2 => .ok (.bl (!k)) S2 := rfl
@[simp] theorem x_if (t : GT) (g u : GE) : gIf t g u e S = (t e S).bind fun k S1 => if k = true then g e S1 else u e S1 := rfl
@[simp] theorem x_nil : gNil e S = .ok [] S := rfl
@[simp] theorem x_cons (g : GE) (r : GA) : gCons g r e S = (g e S).bind fun a S1 => (r e S1).bind fun as S2 => .ok (a :: as) S2 := rfl
@[simp] theorem x_tup (gs : GA) : gTup gs e S = (gs e S).bind fun as S1 => if as.length ≤ line then .ok (.tup as) S1 else .stuck := rfl
@[simp] theorem x_lst (gs : GA) : gLst gs e S = (gs e S).bind fun as S1 => if as.length ≤ line then .ok (.lst as) S1 else .stuck := rfl
@[simp] theorem x_newL (gs : GA) : gNewL gs e S = (gs e S).bind fun as S1 => if as.length ≤ line then .ok (.ref S1.length) (S1 ++ [.lst as]) else .stuck := rfl
@[simp] theorem x_cb (f : Sto → List D → Option D) (gs : GA) : gCB f gs e S = (gs e S).bind fun as S1 => lift (f S1 as) S1 := rfl
@[simp] theorem x_call (φ : Phi) (n m : Nat) (gD : List D → List D → List D) (gs gk : GA) : gCall φ n m gD gs gk e S = (gs e S).bind fun ds S1 => (gk e S1).bind fun es S2 => if ds.length = n ∧ es.length = m then φ (gD ds es) S2 else .stuck := rfl
@[simp] theorem x_star (φ : Phi) (ar : Nat) (g : GE) : gStar φ ar g e S = (g e S).bind fun d S1 => (match d with
  | .tup ds => if ds.length = ar then φ ds S1 else .stuck
  | _ => .stuck) := rfl
@[simp] theorem x_seqI (g : GE) : gSeqI g e S = (g e S).bind fun a S1 => lift (seqD a) S1 := rfl
@[simp] theorem x_enumA (gs : GA) : gEnumA gs e S = (gs e S).bind fun as S1 => lift (enumAD as) S1 := rfl
@[simp] theorem x_zip (gs : GA) : gZip gs e S = (gs e S).bind fun as S1 => lift (zipD as) S1 := rfl
@[simp] theorem x_rng1 (gs : GA) : gRng1 gs e S = (gs e S).bind fun as S1 => lift (rng1D as) S1 := rfl
@[simp] theorem x_rngB (gs : GA) : gRngB gs e S = (gs e S).bind fun as S1 => lift (bigD as) S1 := rfl
@[simp] theorem x_listRg (g : GE) : gListRg g e S = (g e S).bind fun a S1 => (match a with
  | .int j => if lrgOk j = true ∧ 0 ≤ j then .ok (.lst (rangeL 0 j.toNat)) S1 else .stuck
  | _ => .stuck) := rfl
theorem x_for (gi : GI) (gt : D → Ev → Option Ev) (gb : GS) : gFor gi gt gb e S = gE (gi e S) e fun ds S1 => runFor gt gb ds e S1 := rfl
theorem x_lc (gi : GI) (gt : D → Ev → Option Ev) (gc : GT) (ge : GE) (vs : List Nat) : gLc gi gt gc ge vs e S = (gi e S).bind fun ds S1 => (runLc gt gc ge (wipeE e vs) ds S1 []).bind fun acc S2 => .ok (.lst acc) S2 := rfl
@[simp] theorem x_yes : gYes e S = .ok true S := rfl
@[simp] theorem x_noPart : gNoPart e S = .ok none S := rfl
@[simp] theorem x_part (g : GE) : gPart g e S = (g e S).bind fun a S1 => (match a with
  | .int i => .ok (some i) S1
  | _ => .stuck) := rfl
@[simp] theorem x_slice (g : GE) (gl gh : GO) : gSlice g gl gh e S = (g e S).bind fun a S1 => (gl e S1).bind fun l S2 => (gh e S2).bind fun h S3 => lift (sliceD S3 l h a) S3 := rfl
@[simp] theorem x_wipe0 : wipeE e [] = e := rfl
@[simp] theorem x_wipe1 (v : Nat) (vs : List Nat) : wipeE e (v :: vs) = (wipeE e vs).set v .no := rfl
@[simp] theorem x_frz1 (i : Nat) : frz e i = (match e[i]? with
  | some (.own ds) => some (e.set i (.dat (.lst ds)))
  | _ => none) := rfl
@[simp] theorem x_ownAt (i : Nat) : ownAt e i = (match e[i]? with
  | some (.own ds) => some ds
  | _ => none) := rfl
theorem x_fn (n : Nat) (g : GS) (ds : List D) : runFn n g ds S = (match g (envOf n ds) S with
  | .ok (.rt d) S' => .ok d S'
  | .ok (.nx _) S' => .ok .non S'
  | .ok (.xx _ x) S' => .ex x S'
  | _ => .stuck) := rfl
@[simp] theorem x_blOf (b : Bool) : blOf (.bl b) = some b := rfl
variable (i j : Int)
@[simp] theorem x_add : addD S (.int i) (.int j) = some (.int (i + j)) := rfl
@[simp] theorem x_addI : addI S (.int i) (.int j) = some (.int (i + j)) := rfl
@[simp] theorem x_sub : subD S (.int i) (.int j) = some (.int (i - j)) := rfl
theorem x_mul (h : mulOk i j = true) : mulD S (.int i) (.int j) = some (.int (i * j)) := if_pos h
theorem x_fdiv (h : divOk j = true) : fdivD S (.int i) (.int j) = some (.int (i / j)) := if_pos h
theorem x_mod (h : 0 < j) : modD S (.int i) (.int j) = some (.int (i % j)) := if_pos h
@[simp] theorem x_cmp (p : Int → Int → Bool) : cmpD p S (.int i) (.int j) = some (.bl (p i j)) := rfl
@[simp] theorem x_neg : negD S (.int i) = some (.int (-i)) := rfl
@[simp] theorem x_abs : absD S [.int i] = some (.int (if i < 0 then -i else i)) := rfl
@[simp] theorem x_max : maxD S [.int i, .int j] = some (.int (if j > i then j else i)) := rfl
@[simp] theorem x_min : minD S [.int i, .int j] = some (.int (if j < i then j else i)) := rfl
@[simp] theorem x_max3 (k : Int) : max3D S [.int i, .int j, .int k] = some (.int (if (if i < j then j else i) < k then k else (if i < j then j else i))) := rfl
@[simp] theorem x_intI : intD S [.int i] = some (.int i) := rfl
@[simp] theorem x_intB (k : Bool) : intD S [.bl k] = some (.int (if k then 1 else 0)) := rfl
@[simp] theorem x_lenT (ds : List D) : lenD S [.tup ds] = some (.int ds.length) := rfl
@[simp] theorem x_lenL (ds : List D) : lenD S [.lst ds] = some (.int ds.length) := rfl
@[simp] theorem x_sum (xs : List Int) : sumD S [.lst (xs.map .int)] = some (.int xs.sum) := by simp [sumD, intsD_map]
@[simp] theorem x_sorted (xs : List Int) : sortedD S [.lst (xs.map .int)] = some (.lst ((sortI xs).map .int)) := by simp [sortedD, intsD_map]
@[simp] theorem x_tupleL (ds : List D) : tupleD S [.lst ds] = some (.tup ds) := rfl
@[simp] theorem x_seqT (ds : List D) : seqD (.tup ds) = some ds := rfl
@[simp] theorem x_seqL (ds : List D) : seqD (.lst ds) = some ds := rfl
@[simp] theorem x_enT (ds : List D) : enumAD [.tup ds] = some (enumL 0 ds) := rfl
@[simp] theorem x_enL (ds : List D) : enumAD [.lst ds] = some (enumL 0 ds) := rfl
@[simp] theorem x_big : bigD [.int i, .int j] = some (rangeL i (j - i).toNat) := rfl
@[simp] theorem x_ixL (ds : List D) : ixD S (.lst ds) (.int i) = atI ds i := rfl
@[simp] theorem x_ixT (ds : List D) : ixD S (.tup ds) (.int i) = atI ds i := rfl
@[simp] theorem x_ixR (n : Nat) : ixD S (.ref n) (.int i) = (lstAt S n).bind fun ds => atI ds i := rfl
theorem atI_nat {α : Type} {ds : List α} {n : Nat} (h : n < ds.length) : atI ds (n : Int) = ds[n]? := by
  unfold atI ixN
  simp [h]
end
/-! loops -/
theorem for_inv {gt : D → Ev → Option Ev} {gb : GS} (I : List D → Ev → Sto → Prop) (h : ∀ d r e S, I (d :: r) e S → ∃ e1 e2 S2, gt d e = some e1 ∧ gb e1 S = .ok (.nx e2) S2 ∧ I r e2 S2) :
    ∀ (ds : List D) (e : Ev) (S : Sto), I ds e S → ∃ e' S', runFor gt gb ds e S = .ok (.nx e') S' ∧ I [] e' S'
  | [], e, S, i => ⟨e, S, rfl, i⟩
  | d :: ds, e, S, i => by
    obtain ⟨e1, e2, S2, h1, h2, h3⟩ := h d ds e S i
    obtain ⟨e', S', h4, h5⟩ := for_inv I h ds e2 S2 h3
    exact ⟨e', S', by rw [runFor, h1]; simp only [h2]; exact h4, h5⟩
theorem lc_pure {gt : D → Ev → Option Ev} {gc : GT} {ge : GE} {e : Ev} {S : Sto} (P : Int → Bool) (f : Int → D) : ∀ (xs : List Int) (acc : List D), (∀ x ∈ xs, ∃ e2, gt (.int x) e = some e2 ∧ gc e2 S = .ok (P x) S ∧ ge e2 S = .ok (f x) S) → acc.length + xs.length ≤ line →
    runLc gt gc ge e (xs.map .int) S acc = .ok (acc ++ (xs.filter P).map f) S
  | [], acc, _, _ => by simp [runLc]
  | x :: xs, acc, h, hl => by
    obtain ⟨e2, h1, h2, h3⟩ := h x List.mem_cons_self
    rw [List.length_cons] at hl
    rw [List.map_cons, runLc, h1]
    simp only [h2]
    cases q : P x with
    | true =>
      simp only [h3]
      rw [if_pos (by omega), lc_pure P f xs _ (fun y hy => h y (List.mem_cons_of_mem _ hy)) (by simp; omega), List.filter_cons, q]
      simp
    | false =>
      simp only
      rw [lc_pure P f xs _ (fun y hy => h y (List.mem_cons_of_mem _ hy)) (by omega), List.filter_cons, q]
      simp
/-- .. where the test or the value may change the store -/
theorem lc_inv {gt : D → Ev → Option Ev} {gc : GT} {ge : GE} {e : Ev} (I : Sto → Prop) : ∀ (xs : List Int) (acc : List D) (S : Sto), I S → (∀ x ∈ xs, ∀ S, I S → ∃ e2 b S1, gt (.int x) e = some e2 ∧ gc e2 S = .ok b S1 ∧ I S1 ∧ ge e2 S1 = .ok (.int x) S1) → acc.length + xs.length ≤ line →
    ∃ (ys : List Int) (S' : Sto), ys.Sublist xs ∧ I S' ∧ runLc gt gc ge e (xs.map .int) S acc = .ok (acc ++ ys.map .int) S'
  | [], acc, S, i, _, _ => ⟨[], S, .slnil, i, by simp [runLc]⟩
  | x :: xs, acc, S, i, h, hl => by
    obtain ⟨e2, b, S1, h1, h2, h3, h4⟩ := h x List.mem_cons_self S i
    rw [List.length_cons] at hl
    have h' := fun y hy => h y (List.mem_cons_of_mem x hy)
    cases b with
    | true =>
      obtain ⟨ys, S', k1, k2, k3⟩ := lc_inv I xs (acc ++ [.int x]) S1 h3 h' (by simp; omega)
      refine ⟨x :: ys, S', k1.cons_cons x, k2, ?_⟩
      rw [List.map_cons, runLc, h1]
      simp only [h2, h4]
      rw [if_pos (by omega), k3]
      simp
    | false =>
      obtain ⟨ys, S', k1, k2, k3⟩ := lc_inv I xs acc S1 h3 h' (by omega)
      refine ⟨ys, S', k1.cons x, k2, ?_⟩
      rw [List.map_cons, runLc, h1]
      simp only [h2]
      exact k3
theorem fn_rt {n : Nat} {g : GS} {ds : List D} {S S' : Sto} {d : D} (h : g (envOf n ds) S = .ok (.rt d) S') : runFn n g ds S = .ok d S' := by rw [x_fn, h]
theorem fn_nx {n : Nat} {g : GS} {ds : List D} {S S' : Sto} {e : Ev} (h : g (envOf n ds) S = .ok (.nx e) S') : runFn n g ds S = .ok .non S' := by rw [x_fn, h]
theorem seq_nx {g1 g2 : GS} {e : Ev} {S : Sto} {r : Res Fl} (e1 : Ev) (S1 : Sto) (h1 : g1 e S = .ok (.nx e1) S1) (h2 : g2 e1 S1 = r) : gSeq g1 g2 e S = r := by rw [x_seq, h1]; exact h2
theorem seq_for {gi : GI} {gt : D → Ev → Option Ev} {gb g2 : GS} {e : Ev} {S S1 : Sto} {r : Res Fl} (I : List D → Ev → Sto → Prop) (ds : List D) (hi : gi e S = .ok ds S1) (i0 : I ds e S1)
    (h : ∀ d r e S, I (d :: r) e S → ∃ e1 e2 S2, gt d e = some e1 ∧ gb e1 S = .ok (.nx e2) S2 ∧ I r e2 S2) (k : ∀ e' S', I [] e' S' → g2 e' S' = r) : gSeq (gFor gi gt gb) g2 e S = r := by
  obtain ⟨e', S', h1, h2⟩ := for_inv I h ds e S1 i0
  refine seq_nx e' S' ?_ (k e' S' h2)
  rw [x_for, hi]
  exact h1
theorem lc_val {gi : GI} {gt : D → Ev → Option Ev} {gc : GT} {ge : GE} {vs : List Nat} {e : Ev} {S : Sto} (xs : List Int) (P : Int → Bool) (f : Int → D) (hi : gi e S = .ok (xs.map .int) S)
    (h : ∀ x ∈ xs, ∃ e2, gt (.int x) (wipeE e vs) = some e2 ∧ gc e2 S = .ok (P x) S ∧ ge e2 S = .ok (f x) S) (hl : xs.length ≤ line) : gLc gi gt gc ge vs e S = .ok (.lst ((xs.filter P).map f)) S := by
  rw [x_lc, hi]
  show (runLc gt gc ge (wipeE e vs) (xs.map .int) S []).bind _ = _
  rw [lc_pure P f xs [] h (by simpa using hl)]
  rfl
theorem lc_some {gi : GI} {gt : D → Ev → Option Ev} {gc : GT} {ge : GE} {vs : List Nat} {e : Ev} {S : Sto} (I : Sto → Prop) (xs : List Int) (hi : gi e S = .ok (xs.map .int) S) (i0 : I S)
    (h : ∀ x ∈ xs, ∀ S, I S → ∃ e2 b S1, gt (.int x) (wipeE e vs) = some e2 ∧ gc e2 S = .ok b S1 ∧ I S1 ∧ ge e2 S1 = .ok (.int x) S1) (hl : xs.length ≤ line) :
    ∃ (ys : List Int) (S' : Sto), ys.Sublist xs ∧ I S' ∧ gLc gi gt gc ge vs e S = .ok (.lst (ys.map .int)) S' := by
  obtain ⟨ys, S', h1, h2, h3⟩ := lc_inv I xs [] S i0 h (by simpa using hl)
  refine ⟨ys, S', h1, h2, ?_⟩
  rw [x_lc, hi]
  show (runLc gt gc ge (wipeE e vs) (xs.map .int) S []).bind _ = _
  rw [h3]
  rfl
theorem rangeL_map (lo : Int) (n : Nat) : rangeL lo n = ((List.range n).map fun i => lo + (i : Nat)).map .int := by
  unfold rangeL
  rw [List.map_map]
  rfl
theorem divOk_of {j : Int} (h : 0 < j) (h2 : j < 2 ^ 100) : divOk j = true := by
  refine decide_eq_true ⟨h, ?_⟩
  have : j.natAbs.log2 < 100 := (Nat.log2_lt (by omega)).mpr (by omega)
  omega
theorem log2_le {i : Int} {k : Nat} (h : i.natAbs < 2 ^ k) : i.natAbs.log2 ≤ k := by
  by_cases z : i.natAbs = 0
  · rw [z]
    have : Nat.log2 0 = 0 := by decide
    omega
  · exact Nat.le_of_lt ((Nat.log2_lt z).mpr h)
theorem mulOk_lt {i j : Int} {k l : Nat} (h : i.natAbs < 2 ^ k) (h2 : j.natAbs < 2 ^ l) (hk : k + l < 100000000) : mulOk i j = true := by
  refine decide_eq_true ?_
  have := log2_le h
  have := log2_le h2
  omega
end DL
namespace N79
theorem eme (a m : Int) : a % m + m * (a / m) = a := by
  have := Int.emod_def a m
  omega
theorem dvq {m x q t : Int} (h : x = m * q + t) (h0 : 0 ≤ t) (h1 : t < m) : x / m = q := by
  subst h
  rw [Int.add_comm, Int.add_mul_ediv_left _ _ (by omega), Int.ediv_eq_zero_of_lt h0 h1, Int.zero_add]
theorem mdq {m x q t : Int} (h : x = m * q + t) (h0 : 0 ≤ t) (h1 : t < m) : x % m = t := by
  have := eme x m
  rw [dvq h h0 h1] at this
  omega
def ind (b : Bool) : Int := if b then 1 else 0
theorem ind_nn (b : Bool) : 0 ≤ ind b := by cases b <;> decide
theorem ind_le (b : Bool) : ind b ≤ 1 := by cases b <;> decide
/-- how many x of [lo, hi] have x % m = r -/
def c1 (m r lo hi : Int) : Int := (hi - r) / m - (lo - 1 - r) / m
theorem c1_step {m r lo hi : Int} (h0 : 0 ≤ r) (h1 : r < m) : c1 m r lo (hi + 1) = c1 m r lo hi + ind (decide ((hi + 1) % m = r)) := by
  have hm : 0 < m := by omega
  have e := eme (hi + 1) m
  have n0 := Int.emod_nonneg (hi + 1) (show m ≠ 0 by omega)
  have n1 := Int.emod_lt_of_pos (hi + 1) hm
  generalize (hi + 1) % m = t at *
  generalize hq : (hi + 1) / m = q at *
  unfold c1 ind
  by_cases a : t = r
  · rw [dvq (q := q) (t := t - r) (by omega) (by omega) (by omega), dvq (x := hi - r) (q := q - 1) (t := m - 1) (by rw [Int.mul_sub]; omega) (by omega) (by omega)]
    simp [a]
    omega
  · by_cases b : r < t
    · rw [dvq (q := q) (t := t - r) (by omega) (by omega) (by omega), dvq (x := hi - r) (q := q) (t := t - r - 1) (by omega) (by omega) (by omega)]
      simp [a]
    · rw [dvq (q := q - 1) (t := t - r + m) (by rw [Int.mul_sub]; omega) (by omega) (by omega), dvq (x := hi - r) (q := q - 1) (t := t - r - 1 + m) (by rw [Int.mul_sub]; omega) (by omega) (by omega)]
      simp [a]
theorem c1_base {m r lo : Int} : c1 m r lo (lo - 1) = 0 := by unfold c1; omega
def cS (rs : List Int) (m lo hi : Int) : Int := (rs.map fun r => c1 m r lo hi).sum
def cntR (rs : List Int) (m lo hi : Int) : Int := if hi < lo then 0 else cS rs m lo hi
theorem cS_base {rs : List Int} {m lo : Int} : cS rs m lo (lo - 1) = 0 := by
  unfold cS
  induction rs with
  | nil => rfl
  | cons r rs ih => simp [c1_base] at ih ⊢; exact ih
theorem cS_step {m lo hi : Int} : ∀ {rs : List Int}, rs.Nodup → (∀ r ∈ rs, 0 ≤ r ∧ r < m) → cS rs m lo (hi + 1) = cS rs m lo hi + ind (rs.contains ((hi + 1) % m))
  | [], _, _ => by simp [cS, ind]
  | r :: rs, nd, hr => by
    have ih := cS_step (m := m) (lo := lo) (hi := hi) (rs := rs) (List.nodup_cons.mp nd).2 fun x hx => hr x (List.mem_cons_of_mem _ hx)
    have s := c1_step (lo := lo) (hi := hi) (hr r (List.mem_cons_self)).1 (hr r (List.mem_cons_self)).2
    have nm := (List.nodup_cons.mp nd).1
    unfold cS at ih ⊢
    rw [List.map_cons, List.sum_cons, List.map_cons, List.sum_cons, ih, s]
    by_cases a : (hi + 1) % m = r
    · have : rs.contains ((hi + 1) % m) = false := by
        rw [a]
        simpa using nm
      rw [this, List.contains_cons, this, a]
      simp [ind]
      omega
    · rw [List.contains_cons]
      have : ((hi + 1) % m == r) = false := by simpa using a
      rw [this]
      simp [ind, a]
      omega
def rOk (rs : List Int) (m : Int) : Prop := rs.Nodup ∧ ∀ r ∈ rs, 0 ≤ r ∧ r < m
theorem cntR_lt {rs : List Int} {m lo hi : Int} (h : hi < lo) : cntR rs m lo hi = 0 := if_pos h
theorem cntR_step {rs : List Int} {m lo hi : Int} (h : rOk rs m) (hl : lo ≤ hi + 1) : cntR rs m lo (hi + 1) = cntR rs m lo hi + ind (rs.contains ((hi + 1) % m)) := by
  unfold cntR
  rw [if_neg (by omega), cS_step h.1 h.2]
  by_cases e : hi < lo
  · obtain rfl : hi = lo - 1 := by omega
    rw [if_pos e, cS_base]
  · rw [if_neg e]
/-! sums -/
def start (m r lo : Int) : Int := lo + (r - lo) % m
def pS (m r lo hi : Int) : Int := if start m r lo ≤ hi - (hi - r) % m then (start m r lo + (hi - (hi - r) % m)) * ((hi - (hi - r) % m - start m r lo) / m + 1) / 2 else 0
def many (m r lo hi : Int) : Int := if start m r lo ≤ hi then (hi - start m r lo) / m + 1 else 0
def lS (m r lo hi : Int) : Int := many m r lo hi * start m r lo + m * (many m r lo hi * (many m r lo hi - 1) / 2)
theorem start_mod (m r lo : Int) : ∃ k, start m r lo = r + m * k := by
  have e := eme (r - lo) m
  exact ⟨-((r - lo) / m), by unfold start; rw [Int.mul_neg]; omega⟩
theorem start_ge {m r lo : Int} (h1 : 0 < m) : lo ≤ start m r lo ∧ start m r lo < lo + m := by
  have n0 := Int.emod_nonneg (r - lo) (show m ≠ 0 by omega)
  have n1 := Int.emod_lt_of_pos (r - lo) h1
  unfold start
  omega
theorem many_eq {m r lo hi : Int} (h1 : 0 < m) (hl : lo ≤ hi + 1) : many m r lo hi = (hi - start m r lo) / m + 1 := by
  unfold many
  have := start_ge (r := r) (lo := lo) h1
  by_cases e : start m r lo ≤ hi
  · rw [if_pos e]
  · rw [if_neg e, dvq (x := hi - start m r lo) (q := -1) (t := hi - start m r lo + m) (by omega) (by omega) (by omega)]
    rfl
theorem many_nn {m r lo hi : Int} (h1 : 0 < m) : 0 ≤ many m r lo hi := by
  unfold many
  split
  · have := Int.ediv_nonneg (a := hi - start m r lo) (b := m) (by omega) (by omega)
    omega
  · omega
theorem many_le {m r lo hi : Int} (h1 : 0 < m) (hl : lo ≤ hi + 1) : many m r lo hi ≤ hi - lo + 1 := by
  have := start_ge (r := r) (lo := lo) h1
  unfold many
  split
  · have := Int.ediv_le_self (a := hi - start m r lo) m (by omega)
    omega
  · omega
theorem tri (k : Int) : (k + 1) * (k + 1 - 1) / 2 = k * (k - 1) / 2 + k := by
  have : (k + 1) * (k + 1 - 1) = k * (k - 1) + k * 2 := by grind
  rw [this, Int.add_mul_ediv_right _ _ (by omega)]
theorem lS_step {m r lo hi : Int} (h0 : 0 ≤ r) (h1 : r < m) (hl : lo ≤ hi + 1) : lS m r lo (hi + 1) = lS m r lo hi + (if (hi + 1) % m = r then hi + 1 else 0) := by
  have hm : 0 < m := by omega
  obtain ⟨k, hk⟩ := start_mod m r lo
  have e := eme (hi + 1 - start m r lo) m
  have n0 := Int.emod_nonneg (hi + 1 - start m r lo) (show m ≠ 0 by omega)
  have n1 := Int.emod_lt_of_pos (hi + 1 - start m r lo) hm
  unfold lS
  rw [many_eq hm hl, many_eq hm (show lo ≤ hi + 1 + 1 by omega)]
  generalize hu : (hi + 1 - start m r lo) % m = u at *
  generalize hq : (hi + 1 - start m r lo) / m = q at *
  by_cases a : u = 0
  · subst a
    have e2 : (hi - start m r lo) / m = q - 1 := dvq (t := m - 1) (by rw [Int.mul_sub]; omega) (by omega) (by omega)
    have e3 : (hi + 1) % m = r := mdq (q := q + k) (by rw [Int.mul_add]; omega) h0 h1
    have e4 : hi + 1 = start m r lo + m * q := by omega
    rw [if_pos e3, e2, tri q, e4, show q - 1 + 1 = q by omega]
    generalize start m r lo = st
    generalize q * (q - 1) / 2 = z
    grind
  · have e2 : (hi - start m r lo) / m = q := dvq (t := u - 1) (by omega) (by omega) (by omega)
    have e3 : (hi + 1) % m ≠ r := fun z => by
      have e5 := eme (hi + 1) m
      rw [z] at e5
      have e6 := mdq (m := m) (x := hi + 1 - start m r lo) (q := (hi + 1) / m - k) (t := 0) (by rw [Int.mul_sub]; omega) (by omega) (by omega)
      omega
    rw [if_neg e3, e2, Int.add_zero]
theorem lS_base {m r lo : Int} (hm : 0 < m) : lS m r lo (lo - 1) = 0 := by
  have := start_ge (r := r) (lo := lo) hm
  unfold lS many
  rw [if_neg (by omega)]
  simp
theorem pS_lt {m r lo hi : Int} (hm : 0 < m) (h : hi < lo) : pS m r lo hi = 0 := by
  have := start_ge (r := r) (lo := lo) hm
  have n0 := Int.emod_nonneg (hi - r) (show m ≠ 0 by omega)
  unfold pS
  rw [if_neg (by omega)]
theorem pS_lS {m r lo hi : Int} (h0 : 0 ≤ r) (h1 : r < m) (h : lo ≤ hi) : pS m r lo hi = lS m r lo hi := by
  have hm : 0 < m := by omega
  obtain ⟨k, hk⟩ := start_mod m r lo
  have sg := start_ge (r := r) (lo := lo) hm
  have e := eme (hi - r) m
  have n0 := Int.emod_nonneg (hi - r) (show m ≠ 0 by omega)
  have n1 := Int.emod_lt_of_pos (hi - r) hm
  have nn := many_nn (r := r) (lo := lo) (hi := hi) hm
  unfold pS lS
  rw [many_eq hm (by omega)] at nn ⊢
  generalize hu : (hi - r) % m = u at *
  generalize hq : (hi - r) / m = q at *
  have e1 : hi - u = start m r lo + m * (q - k) := by rw [Int.mul_sub]; omega
  have e2 : (hi - start m r lo) / m = q - k := dvq (t := u) (by rw [Int.mul_sub]; omega) n0 n1
  rw [e2] at nn ⊢
  rw [e1]
  have e3 : (start m r lo + m * (q - k) - start m r lo) / m = q - k := dvq (t := 0) (by omega) (by omega) (by omega)
  rw [e3]
  generalize hn : q - k = n at *
  by_cases c : 0 ≤ n
  · rw [if_pos (by have := Int.mul_nonneg (show 0 ≤ m by omega) c; omega)]
    have : ∃ z, n * (n + 1) = 2 * z := by
      rcases (show n % 2 = 0 ∨ n % 2 = 1 by omega) with x | x
      · exact ⟨n / 2 * (n + 1), by have : n = 2 * (n / 2) := by omega
                                   conv => lhs; lhs; rw [this]
                                   rw [Int.mul_assoc]⟩
      · exact ⟨n * ((n + 1) / 2), by have : n + 1 = 2 * ((n + 1) / 2) := by omega
                                     conv => lhs; rhs; rw [this]
                                     rw [Int.mul_left_comm]⟩
    obtain ⟨z, hz⟩ := this
    have e4 : (n + 1) * (n + 1 - 1) / 2 = z := by
      rw [show (n + 1) * (n + 1 - 1) = 2 * z by rw [← hz]; grind]
      omega
    rw [e4]
    have e5 : (start m r lo + (start m r lo + m * n)) * (n + 1) = 2 * ((n + 1) * start m r lo + m * z) := by
      generalize start m r lo = st
      grind
    rw [e5]
    omega
  · obtain rfl : n = -1 := by omega
    rw [if_neg (by omega)]
    simp
def pSum (rs : List Int) (m lo hi : Int) : Int := (rs.map fun r => pS m r lo hi).sum
def lSum (rs : List Int) (m lo hi : Int) : Int := if hi < lo then 0 else (rs.map fun r => lS m r lo hi).sum
theorem pSum_lSum {rs : List Int} {m lo hi : Int} (hm : 0 < m) (h : rOk rs m) : pSum rs m lo hi = lSum rs m lo hi := by
  replace h := h.2
  unfold pSum lSum
  by_cases e : hi < lo
  · rw [if_pos e]
    clear h
    induction rs with
    | nil => rfl
    | cons r rs ih => rw [List.map_cons, List.sum_cons, ih, pS_lt hm e]; rfl
  · rw [if_neg e]
    induction rs with
    | nil => rfl
    | cons r rs ih => rw [List.map_cons, List.sum_cons, List.map_cons, List.sum_cons, ih fun x hx => h x (List.mem_cons_of_mem _ hx), pS_lS (h r List.mem_cons_self).1 (h r List.mem_cons_self).2 (by omega)]
theorem lSum_lt {rs : List Int} {m lo hi : Int} (h : hi < lo) : lSum rs m lo hi = 0 := if_pos h
theorem lSs_step {m lo hi : Int} (hl : lo ≤ hi + 1) : ∀ {rs : List Int}, rs.Nodup → (∀ r ∈ rs, 0 ≤ r ∧ r < m) → (rs.map fun r => lS m r lo (hi + 1)).sum = (rs.map fun r => lS m r lo hi).sum + (if rs.contains ((hi + 1) % m) then hi + 1 else 0)
  | [], _, _ => by simp
  | r :: rs, nd, hr => by
    have ih := lSs_step (m := m) hl (rs := rs) (List.nodup_cons.mp nd).2 fun x hx => hr x (List.mem_cons_of_mem _ hx)
    have s := lS_step (lo := lo) (hi := hi) (hr r (List.mem_cons_self)).1 (hr r (List.mem_cons_self)).2 hl
    have nm := (List.nodup_cons.mp nd).1
    rw [List.map_cons, List.sum_cons, List.map_cons, List.sum_cons, ih, s]
    by_cases a : (hi + 1) % m = r
    · have : rs.contains ((hi + 1) % m) = false := by
        rw [a]
        simpa using nm
      rw [this, List.contains_cons, this, a]
      simp
      omega
    · rw [List.contains_cons]
      have : ((hi + 1) % m == r) = false := by simpa using a
      rw [this]
      simp [a]
      omega
theorem lSum_step {rs : List Int} {m lo hi : Int} (hm : 0 < m) (h : rOk rs m) (hl : lo ≤ hi + 1) : lSum rs m lo (hi + 1) = lSum rs m lo hi + (if rs.contains ((hi + 1) % m) then hi + 1 else 0) := by
  unfold lSum
  rw [if_neg (by omega), lSs_step hl h.1 h.2]
  by_cases e : hi < lo
  · obtain rfl : hi = lo - 1 := by omega
    rw [if_pos e]
    congr 1
    clear h
    induction rs with
    | nil => rfl
    | cons r rs ih => rw [List.map_cons, List.sum_cons, ih, lS_base hm]; rfl
  · rw [if_neg e]
end N79
namespace N79
def mn (a b : Int) : Int := if b < a then b else a
def mx (a b : Int) : Int := if b > a then b else a
def Rising (xs : List Int) (lo hi : Int) : Prop := xs.Pairwise (· < ·) ∧ ∀ x ∈ xs, lo ≤ x ∧ x < hi
theorem Rising.nodup {xs : List Int} {lo hi : Int} (h : Rising xs lo hi) : xs.Nodup := h.1.imp fun {a b} q => by omega
theorem Rising.rOk {xs : List Int} {m : Int} (h : Rising xs 0 m) : rOk xs m := ⟨h.nodup, h.2⟩
structure Lot where
  m : Int
  below : List Int
  first : Int
  between : List Int
  last : Int
  above : List Int
structure LotOk (L : Lot) : Prop where
  m1 : 1 ≤ L.m
  m2 : L.m ≤ 720
  b : Rising L.below 0 L.m
  a : Rising L.above 0 L.m
  f : -50000 ≤ L.first
  l : L.last ≤ 50000
  fl : L.first ≤ L.last
  t : Rising L.between L.first L.last
def has (L : Lot) (x : Int) : Bool := if x < L.first then L.below.contains (x % L.m) else if x < L.last then L.between.contains x else L.above.contains (x % L.m)
def cut (xs : List Int) (lo hi : Int) : List Int := xs.filter fun x => decide (lo ≤ x) && decide (x ≤ hi)
theorem cut_lt {xs : List Int} {lo hi : Int} (h : hi < lo) : cut xs lo hi = [] := by
  unfold cut
  rw [List.filter_eq_nil_iff]
  intro a _
  simp
  omega
theorem cut_same {xs : List Int} {lo hi hi' : Int} (h : ∀ x ∈ xs, (x ≤ hi ↔ x ≤ hi')) : cut xs lo hi = cut xs lo hi' := by
  unfold cut
  apply List.filter_congr
  intro x hx
  simp [h x hx]
theorem cut_step {lo hi : Int} (hl : lo ≤ hi + 1) : ∀ {xs : List Int}, xs.Nodup → ((cut xs lo (hi + 1)).length : Int) = (cut xs lo hi).length + ind (xs.contains (hi + 1)) ∧ (cut xs lo (hi + 1)).sum = (cut xs lo hi).sum + (if xs.contains (hi + 1) then hi + 1 else 0)
  | [], _ => by simp [cut, ind]
  | x :: xs, nd => by
    have ih := cut_step hl (xs := xs) (List.nodup_cons.mp nd).2
    have nm := (List.nodup_cons.mp nd).1
    unfold cut at ih ⊢
    by_cases a : x = hi + 1
    · subst a
      have : xs.contains (hi + 1) = false := by simpa using nm
      rw [this] at ih
      rw [List.contains_cons, this, List.filter_cons, List.filter_cons]
      simp [ind] at ih ⊢
      rw [if_pos hl, if_neg (by omega)]
      simp
      omega
    · have : ((hi + 1 == x) : Bool) = false := by simp; omega
      rw [List.contains_cons, this, Bool.false_or, List.filter_cons, List.filter_cons]
      have e : (decide (lo ≤ x) && decide (x ≤ hi + 1)) = (decide (lo ≤ x) && decide (x ≤ hi)) := by
        congr 1
        rw [decide_eq_decide]
        omega
      rw [e]
      split
      · simp at ih ⊢
        omega
      · exact ih
def cnt (L : Lot) (lo hi : Int) : Int := (cut L.between lo hi).length + (cntR L.below L.m lo (mn hi (L.first - 1)) + cntR L.above L.m (mx lo L.last) hi)
def tot (L : Lot) (lo hi : Int) : Int := (cut L.between lo hi).sum + (lSum L.below L.m lo (mn hi (L.first - 1)) + lSum L.above L.m (mx lo L.last) hi)
theorem mn_le (a b : Int) : mn a b ≤ a ∧ mn a b ≤ b := by unfold mn; split <;> omega
theorem mx_ge (a b : Int) : a ≤ mx a b ∧ b ≤ mx a b := by unfold mx; split <;> omega
variable {L : Lot} {lo hi : Int}
theorem cnt_lt (h : hi < lo) : cnt L lo hi = 0 ∧ tot L lo hi = 0 := by
  have h1 := mn_le hi (L.first - 1)
  have h2 := mx_ge lo L.last
  unfold cnt tot
  rw [cut_lt h, cntR_lt (by omega), cntR_lt (by omega), lSum_lt (by omega), lSum_lt (by omega)]
  exact ⟨rfl, rfl⟩
theorem cnt_step (h : LotOk L) (hl : lo ≤ hi + 1) : cnt L lo (hi + 1) = cnt L lo hi + ind (has L (hi + 1)) ∧ tot L lo (hi + 1) = tot L lo hi + (if has L (hi + 1) = true then hi + 1 else 0) := by
  have fl := h.fl
  have hm := h.m1
  have tb := h.t.2
  have h2 := mx_ge lo L.last
  unfold cnt tot has
  by_cases a : hi + 1 < L.first
  · have e1 : mn (hi + 1) (L.first - 1) = hi + 1 := by unfold mn; split <;> omega
    have e2 : mn hi (L.first - 1) = hi := by unfold mn; split <;> omega
    rw [e1, e2, if_pos a, cntR_step h.b.rOk hl, lSum_step (by omega) h.b.rOk hl, cntR_lt (hi := hi + 1) (by omega), cntR_lt (lo := mx lo L.last) (hi := hi) (by omega), lSum_lt (hi := hi + 1) (by omega), lSum_lt (lo := mx lo L.last) (hi := hi) (by omega),
      cut_same (hi := hi + 1) (hi' := hi) (fun x hx => by have := tb x hx; omega)]
    omega
  · have e1 : mn (hi + 1) (L.first - 1) = L.first - 1 := by unfold mn; split <;> omega
    have e2 : mn hi (L.first - 1) = L.first - 1 := by unfold mn; split <;> omega
    rw [e1, e2, if_neg a]
    by_cases b : hi + 1 < L.last
    · rw [if_pos b, cntR_lt (hi := hi + 1) (by omega), cntR_lt (lo := mx lo L.last) (hi := hi) (by omega), lSum_lt (hi := hi + 1) (by omega), lSum_lt (lo := mx lo L.last) (hi := hi) (by omega)]
      obtain ⟨c1, c2⟩ := cut_step hl h.t.nodup
      omega
    · have e3 : mx lo L.last ≤ hi + 1 := by unfold mx; split <;> omega
      rw [if_neg b, cntR_step h.a.rOk e3, lSum_step (by omega) h.a.rOk e3, cut_same (hi := hi + 1) (hi' := hi) (fun x hx => by have := tb x hx; omega)]
      omega
theorem cnt_join (h : LotOk L) {mid : Int} (hl : lo ≤ mid + 1) : ∀ n : Nat, cnt L lo (mid + n) = cnt L lo mid + cnt L (mid + 1) (mid + n)
  | 0 => by
    rw [show mid + ((0 : Nat) : Int) = mid by omega, (cnt_lt (L := L) (lo := mid + 1) (hi := mid) (by omega)).1]
    omega
  | n + 1 => by
    have ih := cnt_join h hl n
    have e : mid + ((n + 1 : Nat) : Int) = mid + n + 1 := by omega
    rw [e, (cnt_step h (by omega)).1, (cnt_step h (lo := mid + 1) (by omega)).1, ih]
    omega
def upto (lo : Int) (n : Nat) : List Int := (List.range n).map fun i => lo + (i : Nat)
theorem upto_succ (n : Nat) : upto lo (n + 1) = upto lo n ++ [lo + n] := by
  unfold upto
  rw [List.range_succ, List.map_append]
  rfl
theorem walk (h : LotOk L) : ∀ n : Nat, (((upto lo n).filter (has L)).length : Int) = cnt L lo (lo + n - 1) ∧ ((upto lo n).filter (has L)).sum = tot L lo (lo + n - 1)
  | 0 => by
    have := cnt_lt (L := L) (lo := lo) (hi := lo + ((0 : Nat) : Int) - 1) (by omega)
    rw [this.1, this.2]
    exact ⟨rfl, rfl⟩
  | n + 1 => by
    obtain ⟨i1, i2⟩ := walk h n
    have s := cnt_step h (lo := lo) (hi := lo + n - 1) (by omega)
    have e : lo + n - 1 + 1 = lo + (n : Nat) := by omega
    rw [e] at s
    rw [show lo + ((n + 1 : Nat) : Int) - 1 = lo + (n : Nat) by omega, s.1, s.2, upto_succ, List.filter_append, List.length_append, List.sum_append, ← i1, ← i2]
    by_cases b : has L (lo + n) = true
    · simp [List.filter_cons, b, ind]
    · simp [List.filter_cons, b, ind]
theorem cntR_up {rs : List Int} {m : Int} (h : rOk rs m) (hl : lo ≤ hi + 1) : ∀ n : Nat, cntR rs m lo hi ≤ cntR rs m lo (hi + n)
  | 0 => by simp
  | n + 1 => by
    have ih := cntR_up h hl n
    have e : hi + ((n + 1 : Nat) : Int) = hi + n + 1 := by omega
    rw [e, cntR_step h (by omega)]
    have := ind_nn (rs.contains ((hi + ↑n + 1) % m))
    omega
theorem cntR_mono {rs : List Int} {m hi' : Int} (h : rOk rs m) (hl : lo ≤ hi + 1) (hh : hi ≤ hi') : cntR rs m lo hi ≤ cntR rs m lo hi' := by
  have := cntR_up h hl (hi' - hi).toNat
  rw [show hi + ((hi' - hi).toNat : Int) = hi' by omega] at this
  exact this
theorem cntR_nn {rs : List Int} {m : Int} (h : rOk rs m) : 0 ≤ cntR rs m lo hi := by
  by_cases e : hi < lo
  · rw [cntR_lt e]; exact Int.le_refl 0
  · have := cntR_mono (lo := lo) (hi := lo - 1) (hi' := hi) h (by omega) (by omega)
    rw [cntR_lt (hi := lo - 1) (by omega)] at this
    exact this
/-! the number at a place -/
def sortI (ns : List Int) : List Int := ns.mergeSort fun a b => decide (a ≤ b)
def stp (m st r : Int) : Int := (r - st) % m
theorem stp_inj {m st r r' : Int} (h0 : 0 ≤ r) (h1 : r < m) (h0' : 0 ≤ r') (h1' : r' < m) (h : stp m st r = stp m st r') : r = r' := by
  unfold stp at h
  have e := eme (r - st) m
  have e' := eme (r' - st) m
  rw [h] at e
  have k : r = m * ((r - st) / m - (r' - st) / m) + r' := by rw [Int.mul_sub]; omega
  have q : r / m = (r - st) / m - (r' - st) / m := dvq k h0' h1'
  rw [Int.ediv_eq_zero_of_lt h0 h1] at q
  rw [← q] at k
  omega
theorem stp_nodup {m st : Int} : ∀ {rs : List Int}, rs.Nodup → (∀ r ∈ rs, 0 ≤ r ∧ r < m) → (rs.map (stp m st)).Nodup
  | [], _, _ => List.nodup_nil
  | r :: rs, nd, h => by
    rw [List.map_cons, List.nodup_cons]
    refine ⟨fun z => ?_, stp_nodup (List.nodup_cons.mp nd).2 fun x hx => h x (List.mem_cons_of_mem _ hx)⟩
    obtain ⟨x, hx, e⟩ := List.mem_map.mp z
    have h1 := h x (List.mem_cons_of_mem _ hx)
    have h2 := h r List.mem_cons_self
    rw [stp_inj h1.1 h1.2 h2.1 h2.2 e] at hx
    exact (List.nodup_cons.mp nd).1 hx
theorem sortI_perm (ns : List Int) : (sortI ns).Perm ns := List.mergeSort_perm _ _
theorem sortI_le (ns : List Int) : (sortI ns).Pairwise (· ≤ ·) := by
  have := List.pairwise_mergeSort (le := fun (a b : Int) => decide (a ≤ b)) (fun a b c h1 h2 => by simp at *; omega) (fun a b => by simp; omega) ns
  exact this.imp fun h => by simpa using h
theorem sortI_lt {ns : List Int} (h : ns.Nodup) : (sortI ns).Pairwise (· < ·) := by
  have n1 : (sortI ns).Nodup := (sortI_perm ns).nodup_iff.mpr h
  have := (sortI_le ns).and n1
  exact this.imp fun ⟨h1, h2⟩ => by omega
theorem below_at : ∀ {l : List Int} {j : Nat} {s : Int}, l.Pairwise (· < ·) → l[j]? = some s → l.countP (fun x => decide (x < s)) = j
  | [], _, _, _, e => by simp at e
  | x :: xs, 0, s, h, e => by
    simp at e
    subst e
    rw [List.countP_eq_zero]
    intro a ha
    rcases List.mem_cons.mp ha with z | z
    · simp [z]
    · have := (List.pairwise_cons.mp h).1 a z
      simp
      omega
  | x :: xs, j + 1, s, h, e => by
    have e' : xs[j]? = some s := by simpa using e
    have := below_at (List.pairwise_cons.mp h).2 e'
    have lt := (List.pairwise_cons.mp h).1 s (List.mem_of_getElem? e')
    rw [List.countP_cons, this]
    simp [lt]
theorem c1_nth {m r st q s : Int} (hm : 0 < m) (h0 : 0 ≤ s) (h1 : s < m) : c1 m r st (st + q * m + s - 1) = q + ind (decide (stp m st r < s)) := by
  have e := eme (r - st) m
  have n0 := Int.emod_nonneg (r - st) (show m ≠ 0 by omega)
  have n1 := Int.emod_lt_of_pos (r - st) hm
  unfold c1 stp
  generalize hu : (r - st) % m = t at *
  generalize hq : (r - st) / m = a at *
  rw [dvq (x := st - 1 - r) (q := -a - 1) (t := m - 1 - t) (by rw [Int.mul_sub, Int.mul_neg]; omega) (by omega) (by omega)]
  have e1 : q * m = m * q := Int.mul_comm _ _
  by_cases c : t < s
  · rw [dvq (x := st + q * m + s - 1 - r) (q := q - a) (t := s - 1 - t) (by rw [Int.mul_sub]; omega) (by omega) (by omega)]
    simp [ind, c]
    omega
  · rw [dvq (x := st + q * m + s - 1 - r) (q := q - a - 1) (t := s - 1 - t + m) (by rw [Int.mul_sub, Int.mul_sub]; omega) (by omega) (by omega)]
    simp [ind, c]
    omega
theorem cS_nth {m st q s : Int} (hm : 0 < m) (h0 : 0 ≤ s) (h1 : s < m) : ∀ rs : List Int, cS rs m st (st + q * m + s - 1) = rs.length * q + ((rs.map (stp m st)).countP fun x => decide (x < s) : Nat)
  | [] => by simp [cS]
  | r :: rs => by
    have ih := cS_nth hm h0 h1 rs (st := st) (q := q)
    unfold cS at ih ⊢
    rw [List.map_cons, List.sum_cons, ih, c1_nth hm h0 h1, List.map_cons, List.countP_cons, List.length_cons]
    have e : ((rs.length + 1 : Nat) : Int) * q = rs.length * q + q := by
      rw [show ((rs.length + 1 : Nat) : Int) = rs.length + 1 by omega, Int.add_mul, Int.one_mul]
    rw [e]
    by_cases c : stp m st r < s
    · simp [ind, c]
      omega
    · simp [ind, c]
      omega
def steps (rs : List Int) (m st : Int) : List Int := sortI (rs.map (stp m st))
theorem steps_len (rs : List Int) (m st : Int) : (steps rs m st).length = rs.length := by
  unfold steps
  rw [(sortI_perm _).length_eq, List.length_map]
def nthR (rs : List Int) (m st at' : Int) : Int := st + at' / rs.length * m + (steps rs m st).getD (at' % rs.length).toNat 0
theorem nthR_spec {rs : List Int} {m st k : Int} (h : rOk rs m) (hn : rs ≠ []) (hk : 0 ≤ k) (hm : 0 < m) :
    (k % rs.length).toNat < (steps rs m st).length ∧ st ≤ nthR rs m st k ∧ nthR rs m st k < st + m * (k + 1) ∧ rs.contains (nthR rs m st k % m) = true ∧ cntR rs m st (nthR rs m st k - 1) = k := by
  have lp : 0 < (rs.length : Int) := by
    have := List.length_pos_iff.mpr hn
    omega
  have q0 := Int.emod_nonneg k (show (rs.length : Int) ≠ 0 by omega)
  have q1 := Int.emod_lt_of_pos k lp
  have e := eme k rs.length
  have hl : (k % rs.length).toNat < (steps rs m st).length := by rw [steps_len]; omega
  have qn : 0 ≤ k / rs.length := Int.ediv_nonneg hk (by omega)
  have qk : k / rs.length ≤ k := Int.ediv_le_self _ hk
  obtain ⟨s, hs⟩ : ∃ s, (steps rs m st)[(k % rs.length).toNat]? = some s := ⟨_, List.getElem?_eq_getElem hl⟩
  have eg : (steps rs m st).getD (k % rs.length).toNat 0 = s := by rw [List.getD_eq_getElem?_getD, hs]; rfl
  have ms : s ∈ rs.map (stp m st) := (sortI_perm _).mem_iff.mp (List.mem_of_getElem? hs)
  obtain ⟨r, hr, er⟩ := List.mem_map.mp ms
  have s0 : 0 ≤ s := by rw [← er]; exact Int.emod_nonneg _ (by omega)
  have s1 : s < m := by rw [← er]; exact Int.emod_lt_of_pos _ hm
  have ev : nthR rs m st k = st + k / rs.length * m + s := by unfold nthR; rw [eg]
  have qm : 0 ≤ k / rs.length * m := Int.mul_nonneg qn (by omega)
  have ge : st ≤ nthR rs m st k := by omega
  have cS0 : cS rs m st (nthR rs m st k - 1) = k := by
    rw [ev, cS_nth hm s0 s1, ← (sortI_perm (rs.map (stp m st))).countP_eq, below_at (sortI_lt (stp_nodup h.1 h.2)) hs]
    omega
  refine ⟨hl, ge, ?_, ?_, ?_⟩
  · rw [ev]
    have : k / rs.length * m ≤ k * m := Int.mul_le_mul_of_nonneg_right qk (by omega)
    rw [Int.mul_add, Int.mul_comm m k]
    omega
  · have hr' := h.2 r hr
    have e2 := eme (r - st) m
    unfold stp at er
    rw [er] at e2
    have : nthR rs m st k % m = r := mdq (q := k / rs.length - (r - st) / m) (by rw [ev, Int.mul_sub, Int.mul_comm m (k / rs.length)]; omega) hr'.1 hr'.2
    rw [this]
    simpa using hr
  · unfold cntR
    by_cases c : nthR rs m st k - 1 < st
    · rw [if_pos c]
      rw [show nthR rs m st k - 1 = st - 1 by omega, cS_base] at cS0
      exact cS0
    · rw [if_neg c]
      exact cS0
def nthOf (L : Lot) (low k : Int) : Option Int :=
  if k < cntR L.below L.m low (L.first - 1) then some (nthR L.below L.m low k)
  else if k - cntR L.below L.m low (L.first - 1) < (L.between.filter fun x => decide (low ≤ x)).length then some ((L.between.filter fun x => decide (low ≤ x)).getD (k - cntR L.below L.m low (L.first - 1)).toNat 0)
  else if L.above = [] then none
  else some (nthR L.above L.m (mx low L.last) (k - cntR L.below L.m low (L.first - 1) - (L.between.filter fun x => decide (low ≤ x)).length))
theorem cut_at {xs : List Int} (h : xs.Pairwise (· < ·)) {j : Nat} {s : Int} (hs : (xs.filter fun x => decide (lo ≤ x))[j]? = some s) : (cut xs lo (s - 1)).length = j := by
  have := below_at (h.filter _) hs
  rw [← this, List.countP_eq_length_filter, List.filter_filter]
  unfold cut
  congr 1
  apply List.filter_congr
  intro x _
  rw [Bool.and_comm]
  congr 1
  rw [decide_eq_decide]
  omega
theorem nthOf_spec (h : LotOk L) {low k : Int} (hk : 0 ≤ k) : match nthOf L low k with
    | some v => low ≤ v ∧ has L v = true ∧ cnt L low (v - 1) = k ∧ ∀ B, L.first ≤ B → L.last ≤ B → low ≤ B → v ≤ B + L.m * (k + 2) + 1
    | none => L.above = [] ∧ cnt L low (mx L.last low + 1) ≤ k := by
  have fl := h.fl
  have hm := h.m1
  have tb := h.t.2
  have h2 := mx_ge low L.last
  have cn := cntR_nn (lo := low) (hi := L.first - 1) h.b.rOk
  have mk : 0 ≤ L.m * k := Int.mul_nonneg (by omega) hk
  have mk2 : L.m * (k + 2) = L.m * k + 2 * L.m := by rw [Int.mul_add]; omega
  unfold nthOf
  by_cases c1 : k < cntR L.below L.m low (L.first - 1)
  · rw [if_pos c1]
    have ne : L.below ≠ [] := fun z => by
      rw [z] at c1
      unfold cntR cS at c1
      simp at c1
      omega
    obtain ⟨_, g1, g2, g3, g4⟩ := nthR_spec (st := low) h.b.rOk ne hk (by omega)
    generalize hv : nthR L.below L.m low k = v at *
    have vf : v < L.first := by
      apply Int.not_le.mp
      intro z
      have lf : low ≤ L.first - 1 := by
        apply Int.not_lt.mp
        intro y
        rw [cntR_lt y] at c1
        omega
      have := cntR_mono (lo := low) (hi := L.first - 1) (hi' := v - 1) h.b.rOk (by omega) (by omega)
      omega
    refine ⟨g1, ?_, ?_, fun B b1 b2 b3 => by omega⟩
    · unfold has
      rw [if_pos vf]
      exact g3
    · unfold cnt
      have e1 : mn (v - 1) (L.first - 1) = v - 1 := by unfold mn; split <;> omega
      have e2 : cut L.between low (v - 1) = [] := by
        unfold cut
        rw [List.filter_eq_nil_iff]
        intro a ha
        have := tb a ha
        simp
        omega
      rw [e1, e2, g4, cntR_lt (by omega)]
      simp
  · rw [if_neg c1]
    generalize hc : cntR L.below L.m low (L.first - 1) = c at *
    generalize hxs : (L.between.filter fun x => decide (low ≤ x)) = some' at *
    by_cases c2 : k - c < some'.length
    · rw [if_pos c2]
      obtain ⟨s, hs⟩ : ∃ s, some'[(k - c).toNat]? = some s := ⟨_, List.getElem?_eq_getElem (by omega)⟩
      have eg : some'.getD (k - c).toNat 0 = s := by rw [List.getD_eq_getElem?_getD, hs]; rfl
      show low ≤ some'.getD (k - c).toNat 0 ∧ has L (some'.getD (k - c).toNat 0) = true ∧ cnt L low (some'.getD (k - c).toNat 0 - 1) = k ∧ _
      rw [eg]
      have ms : s ∈ some' := List.mem_of_getElem? hs
      rw [← hxs] at ms hs
      have m2 := List.mem_filter.mp ms
      have ts := tb s m2.1
      have ls : low ≤ s := by simpa using m2.2
      refine ⟨ls, ?_, ?_, fun B b1 b2 b3 => by omega⟩
      · unfold has
        rw [if_neg (by omega), if_pos (by omega)]
        simpa using m2.1
      · unfold cnt
        have e1 : mn (s - 1) (L.first - 1) = L.first - 1 := by unfold mn; split <;> omega
        rw [e1, hc, cntR_lt (by omega), cut_at h.t.1 hs]
        omega
    · rw [if_neg c2]
      by_cases c3 : L.above = []
      · rw [if_pos c3]
        refine ⟨c3, ?_⟩
        have h3 := mx_ge L.last low
        unfold cnt
        have e1 : mn (mx L.last low + 1) (L.first - 1) = L.first - 1 := by unfold mn; split <;> omega
        have e2 : cut L.between low (mx L.last low + 1) = some' := by
          rw [← hxs]
          unfold cut
          apply List.filter_congr
          intro x hx
          have := tb x hx
          simp
          omega
        have e3 : cntR L.above L.m (mx low L.last) (mx L.last low + 1) = 0 := by
          rw [c3]
          unfold cntR cS
          simp
        rw [e1, e2, e3, hc]
        omega
      · rw [if_neg c3]
        obtain ⟨_, g1, g2, g3, g4⟩ := nthR_spec (st := mx low L.last) (k := k - c - some'.length) h.a.rOk c3 (by omega) (by omega)
        show low ≤ nthR L.above L.m (mx low L.last) (k - c - some'.length) ∧ has L (nthR L.above L.m (mx low L.last) (k - c - some'.length)) = true ∧ cnt L low (nthR L.above L.m (mx low L.last) (k - c - some'.length) - 1) = k ∧ _
        generalize hv : nthR L.above L.m (mx low L.last) (k - c - some'.length) = v at *
        refine ⟨by omega, ?_, ?_, fun B b1 b2 b3 => ?_⟩
        · unfold has
          rw [if_neg (by omega), if_neg (by omega)]
          exact g3
        · unfold cnt
          have e1 : mn (v - 1) (L.first - 1) = L.first - 1 := by unfold mn; split <;> omega
          have e2 : cut L.between low (v - 1) = some' := by
            rw [← hxs]
            unfold cut
            apply List.filter_congr
            intro x hx
            have := tb x hx
            simp
            omega
          rw [e1, e2, g4, hc]
          omega
        · have : L.m * (k - c - some'.length + 1) ≤ L.m * (k + 1) := Int.mul_le_mul_of_nonneg_left (by omega) (by omega)
          have e5 : L.m * (k + 1) = L.m * k + L.m := by rw [Int.mul_add]; omega
          have : mx low L.last ≤ B := by unfold mx; split <;> omega
          omega
end N79
set_option maxHeartbeats 1000000
namespace T79
open PySem PySem.Spec L2 DL N79
abbrev ti (xs : List Int) : D := .tup (xs.map .int)
abbrev li (xs : List Int) : D := .lst (xs.map .int)
theorem m_is_integer (i : Int) (S : Sto) : p_is_integer [.int i] S = .ok (.bl true) S := by
  simp [p_is_integer, g_is_integer, x_fn, envOf, isiD, tyOf, subT]
theorem m_is_below {i j : Int} (S : Sto) (h0 : 0 ≤ i) (h1 : i < j) : p_is_below [.int i, .int j] S = .ok (.bl true) S := by
  simp [p_is_below, g_is_below, x_fn, envOf, m_is_integer, h0, h1]
theorem m_need_number {i a b : Int} (S : Sto) (h0 : -b < i) (h1 : i < b) : p_need_number [.int i, .int a, .int b] S = .ok .non S := by
  have : ¬ b ≤ (if i < 0 then -i else i) := by split <;> omega
  simp [p_need_number, g_need_number, x_fn, envOf, m_is_integer, truD, this]
theorem m_is_end {i : Int} (S : Sto) (h0 : -50000 ≤ i) (h1 : i ≤ 50000) : p_is_end [.int i] S = .ok (.bl true) S := by
  have : (if i < 0 then -i else i) ≤ 50000 := by split <;> omega
  simp [p_is_end, g_is_end, x_fn, envOf, m_is_integer, this]
theorem m_are_rising {xs : List Int} {lo hi : Int} (S : Sto) (h : Rising xs lo hi) : p_are_rising [ti xs, .int lo, .int hi] S = .ok (.bl true) S := by
  refine fn_rt ?_
  refine seq_nx [.dat (ti xs), .dat (.int lo), .dat (.int hi), .no, .no] S (by simp [envOf, truD, isiD, tyOf, subT]) ?_
  refine seq_for (S1 := S) (fun ds e S1 => S1 = S ∧ ∃ k a b, ds = enumL k ((xs.drop k).map .int) ∧ e = [.dat (ti xs), .dat (.int lo), .dat (.int hi), a, b]) (enumL 0 (xs.map .int)) (by simp) ⟨rfl, 0, _, _, rfl, rfl⟩ ?_ ?_
  · rintro d r e S1 ⟨q, k, a, b, h1, h2⟩
    subst q h2
    cases hx : xs.drop k with
    | nil => rw [hx] at h1; cases h1
    | cons x ys =>
      rw [hx] at h1
      obtain ⟨rfl, rfl⟩ : d = .tup [.int (k : Nat), .int x] ∧ r = enumL (k + 1) (ys.map .int) := by
        simp [enumL] at h1
        exact h1
      have hk : k < xs.length := by
        apply Nat.lt_of_not_le
        intro z
        rw [List.drop_eq_nil_of_le z] at hx
        cases hx
      have hd : xs.drop (k + 1) = ys := by rw [← List.tail_drop, hx]; rfl
      have ex : xs[k] = x := by
        rw [List.drop_eq_getElem_cons hk] at hx
        exact (List.cons.inj hx).1
      have hb := h.2 x (by rw [← ex]; exact List.getElem_mem _)
      refine ⟨_, [.dat (ti xs), .dat (.int lo), .dat (.int hi), .dat (.int k), .dat (.int x)], S1, by simp; rfl, ?_, rfl, k + 1, _, _, by rw [hd], rfl⟩
      rcases Nat.eq_zero_or_pos k with rfl | kp
      · simp [m_is_integer, truD, hb.1, hb.2]
      · have hk1 : k - 1 < (xs.map D.int).length := by simp; omega
        have lt : xs[k - 1]'(by omega) < x := by
          rw [← ex]
          exact List.pairwise_iff_getElem.mp h.1 (k - 1) k (by omega) hk (by omega)
        have e1 : ((k : Nat) : Int) - 1 = ((k - 1 : Nat) : Int) := by omega
        simp [m_is_integer, truD, hb.1, hb.2, e1, atI_nat hk1, List.getElem?_map, List.getElem?_eq_getElem (show k - 1 < xs.length by omega), kp]
        omega
  · rintro e' S' ⟨rfl, k, a, b, _, rfl⟩
    simp
end T79
set_option maxHeartbeats 1000000
namespace N79
theorem rising_len {hi : Int} : ∀ {xs : List Int} {lo : Int}, Rising xs lo hi → (xs.length : Int) ≤ hi - lo ∨ xs = []
  | [], _, _ => .inr rfl
  | x :: xs, lo, h => by
    have hx := h.2 x List.mem_cons_self
    have r : Rising xs (x + 1) hi := ⟨(List.pairwise_cons.mp h.1).2, fun y hy => ⟨(List.pairwise_cons.mp h.1).1 y hy, (h.2 y (List.mem_cons_of_mem _ hy)).2⟩⟩
    left
    rw [List.length_cons]
    rcases rising_len r with q | q
    · omega
    · rw [q]
      simp
      omega
end N79
namespace T79
open PySem PySem.Spec L2 DL N79
theorem rlen {xs : List Int} {lo hi : Int} (h : Rising xs lo hi) (b : hi - lo ≤ 100000) : xs.length ≤ 100000 := by
  rcases rising_len h with q | q
  · omega
  · rw [q]; simp
abbrev lotD (L : Lot) : D := .tup [.int L.m, ti L.below, .int L.first, ti L.between, .int L.last, ti L.above]
variable {L : Lot} {lo hi : Int} (S : Sto)
theorem atI0 {α : Type} (a : α) (l : List α) : atI (a :: l) 0 = some a := atI_nat (n := 0) (ds := a :: l) (by simp)
theorem atI1 {α : Type} (a b : α) (l : List α) : atI (a :: b :: l) 1 = some b := atI_nat (n := 1) (ds := a :: b :: l) (by simp)
theorem atI2 {α : Type} (a b c : α) (l : List α) : atI (a :: b :: c :: l) 2 = some c := atI_nat (n := 2) (ds := a :: b :: c :: l) (by simp)
theorem atI3 {α : Type} (a b c d : α) (l : List α) : atI (a :: b :: c :: d :: l) 3 = some d := atI_nat (n := 3) (ds := a :: b :: c :: d :: l) (by simp)
theorem atI4 {α : Type} (a b c d e : α) (l : List α) : atI (a :: b :: c :: d :: e :: l) 4 = some e := atI_nat (n := 4) (ds := a :: b :: c :: d :: e :: l) (by simp)
theorem atI5 {α : Type} (a b c d e f : α) (l : List α) : atI (a :: b :: c :: d :: e :: f :: l) 5 = some f := atI_nat (n := 5) (ds := a :: b :: c :: d :: e :: f :: l) (by simp)
theorem sh_int (i : Int) : SeqAt.shaped (.int i) = true := by
  simp [SeqAt.shaped, PyData.canLay0, PyData.depth]
theorem cl_ints : ∀ xs : List Int, PyData.canLayAll0 (xs.map .int) = true
  | [] => by simp [PyData.canLayAll0]
  | x :: xs => by simp [PyData.canLayAll0, PyData.canLay0, cl_ints xs]
theorem dp_ints : ∀ xs : List Int, PyData.depthAll (xs.map .int) ≤ 1
  | [] => by simp [PyData.depthAll]
  | x :: xs => by
    have := dp_ints xs
    simp [PyData.depthAll, PyData.depth]
    omega
theorem sh_list (xs : List Int) : SeqAt.shaped (.list (xs.map .int)) = true := by
  have := dp_ints xs
  simp [SeqAt.shaped, PyData.canLay0, PyData.depth, cl_ints]
  omega
theorem sh_tup (xs : List Int) : SeqAt.shaped (.tuple (xs.map .int)) = true := by
  have := dp_ints xs
  simp [SeqAt.shaped, PyData.canLay0, PyData.depth, cl_ints]
  omega
theorem toPs_ints : ∀ xs : List Int, toPs (xs.map .int) = some (xs.map .int)
  | [] => rfl
  | x :: xs => by simp [toPs, toP, toPs_ints xs]
theorem neI (i j : Int) : neD S (.int i) (.int j) = some (.bl (!decide (i = j))) := by
  unfold neD eqP
  simp [toP, sh_int, PyData.eqv]
  try (by_cases h : i = j <;> simp [h])
theorem eqI (i j : Int) : eqD S (.int i) (.int j) = some (.bl (decide (i = j))) := by
  unfold eqD eqP
  simp [toP, sh_int, PyData.eqv]
  try (by_cases h : i = j <;> simp [h])
theorem ne_nil (xs : List Int) : neD S (.lst (xs.map .int)) (.lst []) = some (.bl (!xs.isEmpty)) := by
  unfold neD eqP
  have : toP (.lst (xs.map .int)) = some (.list (xs.map .int)) := by simp [toP, toPs_ints]
  rw [this, show toP (.lst []) = some (.list (([] : List Int).map .int)) from rfl]
  simp only [sh_list]
  cases xs <;> simp [PyData.eqv, PyData.eqvAll]
theorem ne_two (i j : Int) : neD S (.tup [.int i, .int j]) (.tup [.int i, .int j]) = some (.bl false) := by
  unfold neD eqP
  have := sh_tup [i, j]
  simp at this
  simp [toP, toPs, this, PyData.eqv, PyData.eqvAll]
theorem eq_nil : eqD S (.lst []) (.lst []) = some (.bl true) := by
  unfold eqD eqP
  have := sh_list []
  simp at this
  simp [toP, toPs, this, PyData.eqv, PyData.eqvAll]
theorem eq_nilT : eqD S (.tup []) (.tup []) = some (.bl true) := by
  unfold eqD eqP
  have := sh_tup []
  simp at this
  simp [toP, toPs, this, PyData.eqv, PyData.eqvAll]
theorem m_is_lot (h : LotOk L) : p_is_lot [lotD L] S = .ok (.bl true) S := by
  have m1 := h.m1
  have m2 := h.m2
  have fl := h.fl
  have f := h.f
  have l := h.l
  have b := m_are_rising S h.b
  have a := m_are_rising S h.a
  have t := m_are_rising S h.t
  have e1 := m_is_end (i := L.first) S f (by omega)
  have e2 := m_is_end (i := L.last) S (by omega) l
  simp [p_is_lot, g_is_lot, x_fn, envOf, truD, isiD, tyOf, subT, neI, atI0, atI1, atI2, atI3, atI4, atI5, m_is_integer, m1, m2, a, b, t, e1, e2, fl]
theorem m_need_lot (h : LotOk L) (at' : Int) : p_need_lot [lotD L, .int at'] S = .ok .non S := by
  simp [p_need_lot, g_need_lot, x_fn, envOf, m_is_lot S h, truD]
theorem m_counted {rs : List Int} {m lo hi : Int} (h0 : 0 < m) (h1 : m ≤ 720) (hl : rs.length ≤ 100000) : p_counted [ti rs, .int m, .int lo, .int hi] S = .ok (.int (cntR rs m lo hi)) S := by
  have dk : divOk m = true := divOk_of h0 (by omega)
  refine fn_rt ?_
  by_cases c : hi < lo
  · simp [g_counted, envOf, c, cntR]
  · refine seq_nx [.dat (ti rs), .dat (.int m), .dat (.int lo), .dat (.int hi), .no] S (by simp [envOf, c]) ?_
    simp only [x_ret, x_cb, x_cons, x_nil]
    rw [lc_val rs (fun _ => true) (fun x => .int (c1 m x lo hi)) ?h1 ?h2 ?h3]
    case h1 => simp
    case h2 =>
      intro x _
      exact ⟨_, by simp; rfl, by simp, by simp [x_fdiv, dk, c1]⟩
    case h3 =>
      have : line = 16777216 := rfl
      omega
    have : List.filter (fun _ => true) rs = rs := List.filter_eq_self.mpr fun _ _ => rfl
    rw [this, show (rs.map fun x => D.int (c1 m x lo hi)) = (rs.map fun x => c1 m x lo hi).map .int by rw [List.map_map]; rfl]
    simp only [Res.bind_ok, x_sum, lift_some, gE_ok]
    unfold cntR cS
    rw [if_neg c]
theorem m_parts_of (h : LotOk L) : p_parts_of [lotD L, .int lo, .int hi] S = .ok (.tup [.lst [.tup [ti L.below, .int L.m, .int lo, .int (mn hi (L.first - 1))], .tup [ti L.above, .int L.m, .int (mx lo L.last), .int hi]], li (cut L.between lo hi)]) S := by
  have fl := h.fl
  have f := h.f
  have l := h.l
  have bl := rlen h.t (by omega)
  have ll : line = 16777216 := rfl
  refine fn_rt ?_
  refine seq_nx [.dat (lotD L), .dat (.int lo), .dat (.int hi), .dat (.int L.m), .dat (ti L.below), .dat (.int L.first), .dat (ti L.between), .dat (.int L.last), .dat (ti L.above), .no, .no] S (by simp [envOf]) ?_
  refine seq_nx [.dat (lotD L), .dat (.int lo), .dat (.int hi), .dat (.int L.m), .dat (ti L.below), .dat (.int L.first), .dat (ti L.between), .dat (.int L.last), .dat (ti L.above), .dat (.lst [.tup [ti L.below, .int L.m, .int lo, .int (mn hi (L.first - 1))], .tup [ti L.above, .int L.m, .int (mx lo L.last), .int hi]]), .no] S (by simp [ll, mn, mx]) ?_
  simp only [x_ret, x_tup, x_cons, x_nil, x_var, Res.bind_ok, List.getElem?_cons_succ, List.getElem?_cons_zero]
  rw [lc_val L.between (fun x => decide (lo ≤ x) && decide (x ≤ hi)) (fun x => .int x) ?h1 ?h2 ?h3]
  case h1 => simp
  case h2 =>
    intro x _
    refine ⟨_, by simp; rfl, ?_, by simp⟩
    by_cases c : lo ≤ x <;> simp [c]
  case h3 => omega
  simp [ll, cut]
end T79
set_option maxHeartbeats 1000000
namespace T79
open PySem PySem.Spec L2 DL N79
variable {L : Lot} {lo hi : Int} (S : Sto)
theorem ll : line = 16777216 := rfl
theorem lenB (h : LotOk L) : L.below.length ≤ 100000 := rlen h.b (by have := h.m2; omega)
theorem lenA (h : LotOk L) : L.above.length ≤ 100000 := rlen h.a (by have := h.m2; omega)
theorem lenT (h : LotOk L) : L.between.length ≤ 100000 := rlen h.t (by have := h.l; have := h.f; omega)
/-- a comprehension over a list of two -/
theorem lc_two {gi : GI} {gt : D → Ev → Option Ev} {gc : GT} {ge : GE} {vs : List Nat} {e : Ev} {S : Sto} (a b a' b' : D) (e1 e2 : Ev) (hi : gi e S = .ok [a, b] S)
    (h1 : gt a (wipeE e vs) = some e1) (h2 : gc e1 S = .ok true S) (h3 : ge e1 S = .ok a' S)
    (k1 : gt b (wipeE e vs) = some e2) (k2 : gc e2 S = .ok true S) (k3 : ge e2 S = .ok b' S) : gLc gi gt gc ge vs e S = .ok (.lst [a', b']) S := by
  rw [x_lc, hi]
  simp [runLc, h1, h2, h3, k1, k2, k3, ll]
theorem m_many_in (h : LotOk L) : p_many_in [lotD L, .int lo, .int hi] S = .ok (.int (cnt L lo hi)) S := by
  refine fn_rt ?_
  refine seq_nx [.dat (lotD L), .dat (.int lo), .dat (.int hi), .dat (.lst [.tup [ti L.below, .int L.m, .int lo, .int (mn hi (L.first - 1))], .tup [ti L.above, .int L.m, .int (mx lo L.last), .int hi]]), .dat (li (cut L.between lo hi)), .no] S (by simp [envOf, m_parts_of S h]) ?_
  simp only [x_ret, x_op, x_cb, x_cons, x_nil, x_var, Res.bind_ok, List.getElem?_cons_succ, List.getElem?_cons_zero, x_lenL, lift_some]
  rw [lc_two (.tup [ti L.below, .int L.m, .int lo, .int (mn hi (L.first - 1))]) (.tup [ti L.above, .int L.m, .int (mx lo L.last), .int hi]) (.int (cntR L.below L.m lo (mn hi (L.first - 1)))) (.int (cntR L.above L.m (mx lo L.last) hi)) _ _
    ?h1 (by simp; rfl) ?h2 ?h3 (by simp; rfl) ?h4 ?h5]
  case h1 => simp
  case h2 => simp
  case h4 => simp
  case h3 => simp [m_counted S (show 0 < L.m by have := h.m1; omega) h.m2 (lenB h)]
  case h5 => simp [m_counted S (show 0 < L.m by have := h.m1; omega) h.m2 (lenA h)]
  simp [sumD, intsD, cnt]
theorem m_need_stretch (h : LotOk L) (l0 : -10^40 < lo) (l1 : lo < 10^40) (h0 : -10^40 < hi) (h1 : hi < 10^40) : p_need_stretch [lotD L, .int lo, .int hi] S = .ok .non S := by
  refine fn_nx (e := [.dat (lotD L), .dat (.int lo), .dat (.int hi)]) ?_
  have e : (10 : Int) ^ 40 = 10000000000000000000000000000000000000000 := by decide
  rw [e] at l0 l1 h0 h1
  simp [g_need_stretch, envOf, m_need_lot S h, m_need_number S l0 l1, m_need_number S h0 h1]
theorem m_how_many (h : LotOk L) (l0 : -10^40 < lo) (l1 : lo < 10^40) (h0 : -10^40 < hi) (h1 : hi < 10^40) : p_how_many [lotD L, .int lo, .int hi] S = .ok (.int (cnt L lo hi)) S := by
  simp [p_how_many, g_how_many, x_fn, envOf, m_need_stretch S h l0 l1 h0 h1, m_many_in S h]
theorem m_place_in (h : LotOk L) (l0 : -10^40 < lo) (l1 : lo < 10^40) (h0 : -10^40 < hi) (h1 : hi < 10^40) : p_place_in [lotD L, .int lo, .int hi] S = .ok (.int (cnt L lo (hi - 1))) S := by
  simp [p_place_in, g_place_in, x_fn, envOf, m_need_stretch S h l0 l1 h0 h1, m_many_in S h]
theorem m_nth_rest {rs : List Int} {m st k : Int} (h0 : 0 < m) (h1 : m ≤ 720) (hn : rs ≠ []) (hl : rs.length ≤ 100000) (hk : 0 ≤ k) (hk2 : k < 10 ^ 41) : p_nth_rest [ti rs, .int m, .int st, .int k] S = .ok (.int (nthR rs m st k)) S := by
  have lp := List.length_pos_iff.mpr hn
  have q0 := Int.emod_nonneg k (show (rs.length : Int) ≠ 0 by omega)
  have q1 := Int.emod_lt_of_pos k (show (0 : Int) < rs.length by omega)
  have qn : 0 ≤ k / rs.length := Int.ediv_nonneg hk (by omega)
  have qk : k / rs.length ≤ k := Int.ediv_le_self _ hk
  have hs := steps_len rs m st
  have hlt : (k % rs.length).toNat < (steps rs m st).length := by omega
  refine fn_rt ?_
  refine seq_nx [.dat (ti rs), .dat (.int m), .dat (.int st), .dat (.int k), .dat (li (steps rs m st)), .no] S ?_ ?_
  · simp only [x_set, x_dat, x_cb, x_cons, x_nil]
    rw [lc_val rs (fun _ => true) (fun x => .int (stp m st x)) ?h1 ?h2 ?h3]
    case h1 => simp [envOf]
    case h2 =>
      intro x _
      exact ⟨_, by simp [envOf]; rfl, by simp, by simp [x_mod, h0, stp]⟩
    case h3 =>
      have := ll
      omega
    have : List.filter (fun _ => true) rs = rs := List.filter_eq_self.mpr fun _ _ => rfl
    rw [this, show (rs.map fun x => D.int (stp m st x)) = (rs.map (stp m st)).map .int by rw [List.map_map]; rfl]
    simp only [Res.bind_ok, x_sorted, lift_some, gE_ok]
    rfl
  · have dk : divOk (rs.length : Int) = true := divOk_of (by omega) (by omega)
    have mk : mulOk (k / rs.length) m = true := mulOk_lt (k := 200) (l := 200) (by omega) (by omega) (by omega)
    have ga : atI ((steps rs m st).map D.int) (k % rs.length) = some (.int ((steps rs m st).getD (k % rs.length).toNat 0)) := by
      have g := atI_nat (ds := (steps rs m st).map D.int) (n := (k % rs.length).toNat) (by simpa using hlt)
      rw [show (((k % rs.length).toNat : Nat) : Int) = k % rs.length by omega] at g
      rw [g, List.getElem?_map, List.getD_eq_getElem?_getD]
      obtain ⟨s, hs⟩ : ∃ s, (steps rs m st)[(k % rs.length).toNat]? = some s := ⟨_, List.getElem?_eq_getElem hlt⟩
      rw [hs]
      rfl
    have md : modD S (.int k) (.int rs.length) = some (.int (k % rs.length)) := x_mod _ _ (by omega)
    simp [hs, x_fdiv, dk, x_mul, mk, md, ga, nthR]
theorem nth_at {xs : List Int} {k : Int} (h0 : 0 ≤ k) (h1 : k < xs.length) : atI (xs.map D.int) k = some (.int (xs.getD k.toNat 0)) := by
  have g := atI_nat (ds := xs.map D.int) (n := k.toNat) (by simp; omega)
  rw [show ((k.toNat : Nat) : Int) = k by omega] at g
  obtain ⟨s, hs⟩ : ∃ s, xs[k.toNat]? = some s := ⟨_, List.getElem?_eq_getElem (by omega)⟩
  rw [g, List.getElem?_map, List.getD_eq_getElem?_getD, hs]
  rfl
def optD : Option Int → D
  | some v => .int v
  | none => .non
theorem m_nth_of (h : LotOk L) {low k : Int} (hk : 0 ≤ k) (hk2 : k < 10 ^ 41) : p_nth_of [lotD L, .int low, .int k] S = .ok (optD (nthOf L low k)) S := by
  have m0 : 0 < L.m := by have := h.m1; omega
  have m2 := h.m2
  have lb := lenB h
  have la := lenA h
  have lt := lenT h
  have cn := cntR_nn (lo := low) (hi := L.first - 1) h.b.rOk
  have lx : (L.between.filter fun x => decide (low ≤ x)).length ≤ 100000 := Nat.le_trans (List.length_filter_le _ _) lt
  refine fn_rt ?_
  refine seq_nx [.dat (lotD L), .dat (.int low), .dat (.int k), .dat (.int L.m), .dat (ti L.below), .dat (.int L.first), .dat (ti L.between), .dat (.int L.last), .dat (ti L.above), .no, .no, .no] S (by simp [envOf]) ?_
  refine seq_nx [.dat (lotD L), .dat (.int low), .dat (.int k), .dat (.int L.m), .dat (ti L.below), .dat (.int L.first), .dat (ti L.between), .dat (.int L.last), .dat (ti L.above), .dat (.int (cntR L.below L.m low (L.first - 1))), .no, .no] S (by simp [m_counted S m0 m2 lb]) ?_
  unfold nthOf
  by_cases c1 : k < cntR L.below L.m low (L.first - 1)
  · have ne : L.below ≠ [] := fun z => by
      rw [z] at c1
      unfold cntR cS at c1
      simp at c1
      omega
    simp [c1, m_nth_rest S m0 m2 ne lb hk hk2, optD]
  · refine seq_nx [.dat (lotD L), .dat (.int low), .dat (.int k), .dat (.int L.m), .dat (ti L.below), .dat (.int L.first), .dat (ti L.between), .dat (.int L.last), .dat (ti L.above), .dat (.int (cntR L.below L.m low (L.first - 1))), .no, .no] S (by simp [c1]) ?_
    rw [if_neg c1]
    generalize cntR L.below L.m low (L.first - 1) = c at *
    refine seq_nx [.dat (lotD L), .dat (.int low), .dat (.int (k - c)), .dat (.int L.m), .dat (ti L.below), .dat (.int L.first), .dat (ti L.between), .dat (.int L.last), .dat (ti L.above), .dat (.int c), .no, .no] S (by simp) ?_
    refine seq_nx [.dat (lotD L), .dat (.int low), .dat (.int (k - c)), .dat (.int L.m), .dat (ti L.below), .dat (.int L.first), .dat (ti L.between), .dat (.int L.last), .dat (ti L.above), .dat (.int c), .dat (li (L.between.filter fun x => decide (low ≤ x))), .no] S ?_ ?_
    · simp only [x_set, x_dat]
      rw [lc_val L.between (fun x => decide (low ≤ x)) (fun x => .int x) ?h1 ?h2 ?h3]
      case h1 => simp
      case h2 =>
        intro x _
        exact ⟨_, by simp; rfl, by simp, by simp⟩
      case h3 =>
        have := ll
        omega
      simp
    generalize (L.between.filter fun x => decide (low ≤ x)) = xs at *
    by_cases c2 : k - c < xs.length
    · rw [if_pos c2]
      simp [c2, nth_at (xs := xs) (k := k - c) (by omega) c2, optD]
    · refine seq_nx [.dat (lotD L), .dat (.int low), .dat (.int (k - c)), .dat (.int L.m), .dat (ti L.below), .dat (.int L.first), .dat (ti L.between), .dat (.int L.last), .dat (ti L.above), .dat (.int c), .dat (li xs), .no] S (by simp [c2]) ?_
      rw [if_neg c2]
      by_cases c3 : L.above = []
      · simp [c3, truD, optD]
      · have tr : truD S (ti L.above) = some true := by
          show some (!(L.above.map D.int).isEmpty) = some true
          cases hh : L.above with
          | nil => exact absurd hh c3
          | cons a b => rfl
        have q := m_nth_rest S m0 m2 c3 la (k := k - c - xs.length) (st := mx low L.last) (by omega) (by omega)
        unfold mx at q
        rw [if_neg c3]
        simp [tr, q, optD, mx]
theorem m_number_in (h : LotOk L) {low k : Int} (l0 : -10^40 < lo) (l1 : lo < 10^40) (hk : 0 ≤ k) (hk2 : k < 10 ^ 41) : p_number_in [lotD L, .int lo, .int k] S = .ok (optD (nthOf L lo k)) S := by
  have e : (10 : Int) ^ 40 = 10000000000000000000000000000000000000000 := by decide
  have e' : (10 : Int) ^ 41 = 100000000000000000000000000000000000000000 := by decide
  have n := m_nth_of S h (low := lo) hk hk2
  rw [e] at l0 l1
  rw [e'] at hk2
  have b := m_is_below S hk hk2
  simp [p_number_in, g_number_in, p_need_index, g_need_index, x_fn, envOf, m_need_lot S h, m_need_number S l0 l1, b, truD, n]
theorem m_summed {rs : List Int} {m lo hi : Int} (h0 : 0 < m) (h1 : m ≤ 720) (l0 : -10^42 < lo) (l1 : lo < 10^42) (k0 : -10^42 < hi) (k1 : hi < 10^42) : p_summed [ti rs, .int m, .int lo, .int hi] S = .ok (.int (pSum rs m lo hi)) S := by
  refine fn_rt ?_
  refine seq_nx [.dat (ti rs), .dat (.int m), .dat (.int lo), .dat (.int hi), .dat (.int 0), .no, .no, .no] S (by simp [envOf]) ?_
  refine seq_for (S1 := S) (fun ds e S1 => S1 = S ∧ ∃ (qs : List Int) (a b c : DL.Slot) (z : Int), ds = qs.map .int ∧ e = [.dat (ti rs), .dat (.int m), .dat (.int lo), .dat (.int hi), .dat (.int z), a, b, c] ∧ z + pSum qs m lo hi = pSum rs m lo hi) (rs.map .int) (by simp) ⟨rfl, rs, _, _, _, 0, rfl, rfl, by omega⟩ ?_ ?_
  · rintro d r e S1 ⟨q, qs, a, b, c, z, e1, e2, e3⟩
    subst q e2
    cases qs with
    | nil => cases e1
    | cons x qs =>
      obtain ⟨rfl, rfl⟩ : d = .int x ∧ r = qs.map .int := by simpa using e1
      have n0 := Int.emod_nonneg (x - lo) (show m ≠ 0 by omega)
      have n1 := Int.emod_lt_of_pos (x - lo) h0
      have v0 := Int.emod_nonneg (hi - x) (show m ≠ 0 by omega)
      have v1 := Int.emod_lt_of_pos (hi - x) h0
      have dk : divOk m = true := divOk_of h0 (by omega)
      have dk2 : divOk 2 = true := divOk_of (by omega) (by omega)
      have e4 : pSum (x :: qs) m lo hi = pS m x lo hi + pSum qs m lo hi := by unfold pSum; rw [List.map_cons, List.sum_cons]
      rw [e4] at e3
      refine ⟨_, [.dat (ti rs), .dat (.int m), .dat (.int lo), .dat (.int hi), .dat (.int (z + pS m x lo hi)), .dat (.int x), .dat (.int (lo + (x - lo) % m)), .dat (.int (hi - (hi - x) % m))], S1, by simp; rfl, ?_, rfl, qs, _, _, _, _, rfl, rfl, by omega⟩
      unfold pS N79.start
      by_cases c : lo + (x - lo) % m ≤ hi - (hi - x) % m
      · have mk : mulOk (lo + (x - lo) % m + (hi - (hi - x) % m)) ((hi - (hi - x) % m - (lo + (x - lo) % m)) / m + 1) = true := by
          have dn := Int.ediv_nonneg (a := hi - (hi - x) % m - (lo + (x - lo) % m)) (b := m) (by omega) (by omega)
          have dl := Int.ediv_le_self (a := hi - (hi - x) % m - (lo + (x - lo) % m)) m (by omega)
          exact mulOk_lt (k := 200) (l := 200) (by omega) (by omega) (by omega)
        simp [x_mod, h0, c, x_mul, mk, x_fdiv, dk, dk2]
      · simp [x_mod, h0, c]
  · rintro e' S' ⟨rfl, qs, a, b, c, z, e1, rfl, e3⟩
    obtain rfl : qs = [] := by simpa using e1.symm
    have : pSum [] m lo hi = 0 := rfl
    rw [this] at e3
    simp
    omega
theorem m_sum_in (h : LotOk L) (l0 : -10^40 < lo) (l1 : lo < 10^40) (h0 : -10^40 < hi) (h1 : hi < 10^40) : p_sum_in [lotD L, .int lo, .int hi] S = .ok (.int (tot L lo hi)) S := by
  have m0 : 0 < L.m := by have := h.m1; omega
  have f := h.f
  have fl := h.fl
  have l := h.l
  refine fn_rt ?_
  refine seq_nx [.dat (lotD L), .dat (.int lo), .dat (.int hi), .no, .no, .no] S (by simp [envOf, m_need_stretch S h l0 l1 h0 h1]) ?_
  refine seq_nx [.dat (lotD L), .dat (.int lo), .dat (.int hi), .dat (.lst [.tup [ti L.below, .int L.m, .int lo, .int (mn hi (L.first - 1))], .tup [ti L.above, .int L.m, .int (mx lo L.last), .int hi]]), .dat (li (cut L.between lo hi)), .no] S (by simp [m_parts_of S h]) ?_
  simp only [x_ret, x_op, x_cb, x_cons, x_nil, x_var, Res.bind_ok, List.getElem?_cons_succ, List.getElem?_cons_zero, x_sum, lift_some]
  rw [lc_two (.tup [ti L.below, .int L.m, .int lo, .int (mn hi (L.first - 1))]) (.tup [ti L.above, .int L.m, .int (mx lo L.last), .int hi]) (.int (pSum L.below L.m lo (mn hi (L.first - 1)))) (.int (pSum L.above L.m (mx lo L.last) hi)) _ _
    ?h1 (by simp; rfl) ?h2 ?h3 (by simp; rfl) ?h4 ?h5]
  case h1 => simp
  case h2 => simp
  case h4 => simp
  case h3 =>
    have := mn_le hi (L.first - 1)
    have e : -10^42 < mn hi (L.first - 1) := by unfold mn; split <;> omega
    simp [m_summed S m0 h.m2 (show -10^42 < lo by omega) (show lo < 10^42 by omega) e (show mn hi (L.first - 1) < 10^42 by omega)]
  case h5 =>
    have := mx_ge lo L.last
    have e : mx lo L.last < 10^42 := by unfold mx; split <;> omega
    simp [m_summed S m0 h.m2 (show -10^42 < mx lo L.last by omega) e (show -10^42 < hi by omega) (show hi < 10^42 by omega)]
  simp [sumD, intsD, tot, pSum_lSum m0 h.b.rOk, pSum_lSum m0 h.a.rOk]
end T79
set_option maxHeartbeats 1000000
namespace T79
open PySem PySem.Spec L2 DL N79
variable {L : Lot} {lo hi : Int} {S : Sto}
/-- the law's box, as it stands in the store -/
def Box (S : Sto) : Prop := ∃ (cells : List Int) (st : Int), S = [.lst [li cells, .int st]] ∧ 0 ≤ st ∧ st < 2 ^ 32 ∧ cells.length ≤ 63
theorem cut_one {α : Type} (a : α) (l : List α) : cutG (a :: l) (some 1) none = l := by
  unfold cutG
  rw [HT.sIx_none, show (some (1 : Int)) = some ((1 : Nat) : Int) from rfl, HT.sIx_nat]
  simp
theorem x_addL (a b : List D) (h : a.length + b.length ≤ line) : addD S (.lst a) (.lst b) = some (.lst (a ++ b)) := if_pos h
theorem seq_rt {g1 g2 : GS} {e : Ev} {S S1 : Sto} {d : D} (h1 : g1 e S = .ok (.rt d) S1) : gSeq g1 g2 e S = .ok (.rt d) S1 := by rw [x_seq, h1]
theorem lst0 (xs : List Int) (st : Int) : lstAt [.lst [li xs, .int st]] 0 = some [li xs, .int st] := rfl
theorem m_take {k : Int} (hS : Box S) (h0 : 0 < k) (h1 : k < 2 ^ 100) : ∃ r S', p__law_take [.ref 0, .int k] S = .ok (.int r) S' ∧ 0 ≤ r ∧ r < k ∧ Box S' := by
  obtain ⟨cells, st, rfl, s0, s1, sl⟩ := hS
  have dk := divOk_of h0 h1
  have nn : neD [.lst [li cells, .int st]] (li cells) (.lst []) = some (.bl (!cells.isEmpty)) := ne_nil _ cells
  cases cells with
  | nil =>
    have e1 : mulOk st 48271 = true := mulOk_lt (k := 100) (l := 100) (by omega) (by decide) (by omega)
    have n0 := Int.emod_nonneg (st * 48271) (show (2147483647 : Int) ≠ 0 by omega)
    have n1 := Int.emod_lt_of_pos (st * 48271) (show (0 : Int) < 2147483647 by omega)
    generalize hs2 : st * 48271 % 2147483647 = s2 at *
    have e2 : mulOk s2 69621 = true := mulOk_lt (k := 100) (l := 100) (by omega) (by decide) (by omega)
    have e3 : divOk 1013 = true := divOk_of (by omega) (by omega)
    refine ⟨(s2 * 69621 + 7) / 1013 % k, [.lst [li [], .int s2]], fn_rt ?_, Int.emod_nonneg _ (by omega), Int.emod_lt_of_pos _ h0, [], s2, rfl, n0, by omega, by simp⟩
    refine seq_nx [.dat (.ref 0), .dat (.int k), .no] [.lst [li [], .int st]] ?_ ?_
    · simp [envOf, lst0, atI0, nn]
    · refine seq_nx [.dat (.ref 0), .dat (.int k), .no] [.lst [li [], .int s2]] ?_ ?_
      · simp [lst0, atI1, x_mul, e1, x_mod, hs2, ixN]
      · simp [lst0, atI1, x_mul, e2, e3, x_mod, x_fdiv, h0]
  | cons c cs =>
    have l1 : cs.length + 1 ≤ 63 := sl
    have ae : addD [.lst [li (c :: cs), .int st]] (.lst []) (.lst (cs.map D.int)) = some (.lst (cs.map D.int)) := x_addL _ _ (by simp [ll]; omega)
    have ac : ∀ d, addD [.lst [li (c :: cs), .int st]] (.lst [d]) (.lst (cs.map D.int)) = some (.lst (d :: cs.map D.int)) := fun d => x_addL _ _ (by simp [ll]; omega)
    have sd : sliceD [.lst [li (c :: cs), .int st]] (some 1) none (li (c :: cs)) = some (li cs) := by
      show some (D.lst (cutG (.int c :: cs.map D.int) (some 1) none)) = _
      rw [cut_one]
    have i0 : atI ((c :: cs).map D.int) 0 = some (.int c) := atI0 _ _
    by_cases q : k ≤ c
    · refine ⟨c % k, [.lst [li (c / k :: cs), .int st]], fn_rt ?_, Int.emod_nonneg _ (by omega), Int.emod_lt_of_pos _ h0, _, st, rfl, s0, s1, by simpa using sl⟩
      refine seq_rt ?_
      simp [-List.map_cons, envOf, lst0, atI0, nn, ll, i0, q, x_fdiv, dk, ac, sd, ixN, x_mod, h0]
      rfl
    · refine ⟨c % k, [.lst [li cs, .int st]], fn_rt ?_, Int.emod_nonneg _ (by omega), Int.emod_lt_of_pos _ h0, _, st, rfl, s0, s1, by omega⟩
      refine seq_rt ?_
      simp [-List.map_cons, envOf, lst0, atI0, nn, ll, i0, q, ae, sd, ixN, x_mod, h0]
theorem inV_ints (x : Int) : ∀ xs : List Int, inV (.int x) (xs.map V.int) = xs.contains x
  | [] => rfl
  | y :: xs => by
    have ih := inV_ints x xs
    unfold inV at ih ⊢
    rw [List.map_cons, List.any_cons, ih, List.contains_cons]
    congr 1
    show (y == x) = (x == y)
    rw [Bool.eq_iff_iff]
    simp
    exact eq_comm
theorem flats_ints : ∀ xs : List Int, flats (xs.map .int) = some (xs.map V.int)
  | [] => rfl
  | x :: xs => by simp [flats, flat, flats_ints xs]
theorem in_tup (x : Int) (xs : List Int) (S : Sto) : inD S (.int x) (ti xs) = some (.bl (xs.contains x)) := by
  unfold inD inP
  simp only [flat, flats_ints, Option.map_some, inV_ints]
theorem m_law_has (m0 : 0 < L.m) (x : Int) (S : Sto) : p__law_has [lotD L, .int x] S = .ok (.bl (has L x)) S := by
  unfold has
  by_cases c : x < L.first
  · simp [p__law_has, g__law_has, x_fn, envOf, atI0, atI1, atI2, c, x_mod, m0, in_tup]
  · by_cases c2 : x < L.last
    · simp [p__law_has, g__law_has, x_fn, envOf, atI0, atI1, atI2, atI3, atI4, c, c2, x_mod, m0, in_tup]
    · simp [p__law_has, g__law_has, x_fn, envOf, atI0, atI1, atI2, atI4, atI5, c, c2, x_mod, m0, in_tup]
theorem m_law_sides (h : LotOk L) (S : Sto) : p__law_sides [lotD L, .int lo, .int hi] S = .ok (.tup [.lst [.tup [.int lo, .int (mn hi (L.first - 1)), ti L.below], .tup [.int (mx lo L.last), .int hi, ti L.above]], li (cut L.between lo hi)]) S := by
  have bl := lenT h
  have ll := ll
  refine fn_rt ?_
  refine seq_nx [.dat (lotD L), .dat (.int lo), .dat (.int hi), .dat (.lst [.tup [.int lo, .int (mn hi (L.first - 1)), ti L.below], .tup [.int (mx lo L.last), .int hi, ti L.above]]), .no] S (by simp [envOf, ll, mn, mx, atI1, atI2, atI4, atI5]) ?_
  simp only [x_ret, x_tup, x_cons, x_nil, x_var, Res.bind_ok, List.getElem?_cons_succ, List.getElem?_cons_zero]
  rw [lc_val L.between (fun x => decide (lo ≤ x) && decide (x ≤ hi)) (fun x => .int x) ?h1 ?h2 ?h3]
  case h1 => simp [atI3]
  case h2 =>
    intro x _
    refine ⟨_, by simp; rfl, ?_, by simp⟩
    by_cases c : lo ≤ x <;> simp [c]
  case h3 => omega
  simp [ll, cut]
end T79
set_option maxHeartbeats 1000000
namespace T79
open PySem PySem.Spec L2 DL N79
variable {L : Lot} {lo hi : Int} {S : Sto}
theorem m_pick {xs : List Int} (hS : Box S) (hn : xs ≠ []) (hl : xs.length ≤ 1000) : ∃ v S', v ∈ xs ∧ p__law_pick [.ref 0, .lst (xs.map .int)] S = .ok (.int v) S' ∧ Box S' := by
  have lp := List.length_pos_iff.mpr hn
  obtain ⟨r, S', h1, h2, h3, h4⟩ := m_take (k := xs.length) hS (by omega) (by omega)
  refine ⟨xs.getD r.toNat 0, S', ?_, ?_, h4⟩
  · rw [List.getD_eq_getElem?_getD, List.getElem?_eq_getElem (by omega)]
    exact List.getElem_mem _
  · refine fn_rt ?_
    have g := nth_at (xs := xs) h2 h3
    simp [g__law_pick, envOf, h1, g]
theorem pow_ok (S : Sto) : powD S (.int 10) (.int 6) = some (.int 1000000) ∧ powD S (.int 10) (.int 18) = some (.int 1000000000000000000) ∧ powD S (.int 10) (.int 39) = some (.int 1000000000000000000000000000000000000000) ∧
    powD S (.int 10) (.int 9) = some (.int 1000000000) ∧ powD S (.int 10) (.int 40) = some (.int 10000000000000000000000000000000000000000) ∧ powD S (.int 10) (.int 41) = some (.int 100000000000000000000000000000000000000000) := by
  simp [powD, powOk]
def Nums (r : Res D) : Prop := ∃ v S', r = .ok (.int v) S' ∧ -2000000000000000000000000000000000000000 < v ∧ v < 2000000000000000000000000000000000000000 ∧ Box S'
theorem m_wide (hS : Box S) : Nums (p__law_wide_number_of [.ref 0] S) := by
  obtain ⟨p1, p2, p3, _⟩ := pow_ok S
  obtain ⟨w, S1, h1, w0, w1, b1⟩ := m_take (k := 6) hS (by omega) (by omega)
  by_cases c : w < 3
  · obtain ⟨v, S2, h2, v0, v1, b2⟩ := m_take (k := 200) b1 (by omega) (by omega)
    refine ⟨v - 100, S2, fn_rt ?_, by omega, by omega, b2⟩
    simp [g__law_wide_number_of, envOf, h1, c, h2]
  · by_cases c2 : w = 3
    · obtain ⟨v, S2, h2, v0, v1, b2⟩ := m_take (k := 4000) b1 (by omega) (by omega)
      refine ⟨v - 2000, S2, fn_rt ?_, by omega, by omega, b2⟩
      simp [g__law_wide_number_of, envOf, h1, c, c2, eqI, h2]
    · obtain ⟨p1, p2, p3, _⟩ := pow_ok S1
      obtain ⟨s, S2, ms, h2, b2⟩ := m_pick (xs := [1000000, 1000000000000000000, 1000000000000000000000000000000000000000]) b1 (by simp) (by simp)
      have q1 := (pow_ok S2).1
      obtain ⟨v, S3, h3, v0, v1, b3⟩ := m_take (k := 1000000) b2 (by omega) (by omega)
      obtain ⟨z, S4, h4, z0, z1, b4⟩ := m_take (k := 2) b3 (by omega) (by omega)
      simp only [List.map] at h2
      have sb : 0 ≤ s ∧ s ≤ 1000000000000000000000000000000000000000 := by
        simp at ms
        omega
      by_cases c3 : z = 0
      · refine ⟨s + v, S4, fn_rt ?_, by omega, by omega, b4⟩
        simp [g__law_wide_number_of, envOf, h1, c, c2, eqI, p1, p2, p3, ll, h2, q1, h3, h4, c3]
      · refine ⟨0 - (s + v), S4, fn_rt ?_, by omega, by omega, b4⟩
        simp [g__law_wide_number_of, envOf, h1, c, c2, eqI, p1, p2, p3, ll, h2, q1, h3, h4, c3]
/-! the lot drawn -/
theorem set_lc {P : Res Fl → Prop} {i : Nat} {gi : GI} {gt : D → Ev → Option Ev} {gc : GT} {ge : GE} {vs : List Nat} {g2 : GS} {e : Ev} {S : Sto} (I : Sto → Prop) (xs : List Int) (hi : gi e S = .ok (xs.map .int) S) (i0 : I S)
    (h : ∀ x ∈ xs, ∀ S, I S → ∃ e2 b S1, gt (.int x) (wipeE e vs) = some e2 ∧ gc e2 S = .ok b S1 ∧ I S1 ∧ ge e2 S1 = .ok (.int x) S1) (hl : xs.length ≤ line)
    (k : ∀ ys S', ys.Sublist xs → I S' → P (g2 (e.set i (.dat (li ys))) S')) : P (gSeq (gSet i (gDat (gLc gi gt gc ge vs))) g2 e S) := by
  obtain ⟨ys, S', h1, h2, h3⟩ := lc_some I xs hi i0 h hl
  rw [seq_nx _ _ (by simp [h3]; exact ⟨rfl, rfl⟩) rfl]
  exact k ys S' h1 h2
theorem set_lcT {P : Res Fl → Prop} {i : Nat} {gi : GI} {gt : D → Ev → Option Ev} {gc : GT} {ge : GE} {vs : List Nat} {g2 : GS} {e : Ev} {S : Sto} (I : Sto → Prop) (xs : List Int) (hi : gi e S = .ok (xs.map .int) S) (i0 : I S)
    (h : ∀ x ∈ xs, ∀ S, I S → ∃ e2 b S1, gt (.int x) (wipeE e vs) = some e2 ∧ gc e2 S = .ok b S1 ∧ I S1 ∧ ge e2 S1 = .ok (.int x) S1) (hl : xs.length ≤ line)
    (k : ∀ ys S', ys.Sublist xs → I S' → P (g2 (e.set i (.dat (ti ys))) S')) : P (gSeq (gSet i (gDat (gCB tupleD (gCons (gLc gi gt gc ge vs) gNil)))) g2 e S) := by
  obtain ⟨ys, S', h1, h2, h3⟩ := lc_some I xs hi i0 h hl
  rw [seq_nx _ _ (by simp [h3]; exact ⟨rfl, rfl⟩) rfl]
  exact k ys S' h1 h2
theorem seq_P {P : Res Fl → Prop} {g1 g2 : GS} {e : Ev} {S : Sto} (e1 : Ev) (S1 : Sto) (h1 : g1 e S = .ok (.nx e1) S1) (h2 : P (g2 e1 S1)) : P (gSeq g1 g2 e S) := by
  rw [seq_nx e1 S1 h1 rfl]
  exact h2
theorem for_P {P : Res Fl → Prop} {gi : GI} {gt : D → Ev → Option Ev} {gb g2 : GS} {e : Ev} {S S1 : Sto} (I : List D → Ev → Sto → Prop) (ds : List D) (hi : gi e S = .ok ds S1) (i0 : I ds e S1)
    (h : ∀ d r e S, I (d :: r) e S → ∃ e1 e2 S2, gt d e = some e1 ∧ gb e1 S = .ok (.nx e2) S2 ∧ I r e2 S2) (k : ∀ e' S', I [] e' S' → P (g2 e' S')) : P (gSeq (gFor gi gt gb) g2 e S) := by
  obtain ⟨e', S', h1, h2⟩ := for_inv I h ds e S1 i0
  refine seq_P e' S' ?_ (k e' S' h2)
  rw [x_for, hi]
  exact h1
def Goes (I : Ev → Sto → Prop) (r : Res Fl) : Prop := ∃ e2 S2, r = .ok (.nx e2) S2 ∧ I e2 S2
theorem for_Q {P : Res Fl → Prop} {gi : GI} {gt : D → Ev → Option Ev} {gb g2 : GS} {e : Ev} {S S1 : Sto} (I : List D → Ev → Sto → Prop) (ds : List D) (hi : gi e S = .ok ds S1) (i0 : I ds e S1)
    (h : ∀ d r e S, I (d :: r) e S → ∃ e1, gt d e = some e1 ∧ Goes (I r) (gb e1 S)) (k : ∀ e' S', I [] e' S' → P (g2 e' S')) : P (gSeq (gFor gi gt gb) g2 e S) :=
  for_P I ds hi i0 (fun d r e S i => let ⟨e1, h1, e2, S2, h2, h3⟩ := h d r e S i; ⟨e1, e2, S2, h1, h2, h3⟩) k
theorem seq_E {P : Res Fl → Prop} {g1 g2 : GS} {e : Ev} {S : Sto} (A : Ev → Sto → Prop) (h : Goes A (g1 e S)) (k : ∀ e1 S1, A e1 S1 → P (g2 e1 S1)) : P (gSeq g1 g2 e S) := by
  obtain ⟨e1, S1, h1, h2⟩ := h
  exact seq_P e1 S1 h1 (k e1 S1 h2)
theorem rising_upto (lo : Int) (n : Nat) : Rising (upto lo n) lo (lo + n) := by
  unfold upto
  refine ⟨?_, fun x hx => ?_⟩
  · rw [List.pairwise_map]
    exact List.pairwise_lt_range.imp fun h => by omega
  · obtain ⟨i, hi, rfl⟩ := List.mem_map.mp hx
    have := List.mem_range.mp hi
    omega
theorem rising_sub {xs ys : List Int} {lo hi : Int} (h : Rising xs lo hi) (s : ys.Sublist xs) : Rising ys lo hi := ⟨h.1.sublist s, fun x hx => h.2 x (s.subset hx)⟩
theorem rising_mod {ys : List Int} {m : Int} (h0 : 0 ≤ m) (s : ys.Sublist (upto 0 m.toNat)) : Rising ys 0 m := by
  have := rising_sub (rising_upto 0 m.toNat) s
  rw [show (0 : Int) + (m.toNat : Int) = m by omega] at this
  exact this
theorem rising_rng {ys : List Int} {lo hi : Int} (h0 : lo ≤ hi) (s : ys.Sublist (upto lo (hi - lo).toNat)) : Rising ys lo hi := by
  have := rising_sub (rising_upto lo (hi - lo).toNat) s
  rw [show lo + ((hi - lo).toNat : Int) = hi by omega] at this
  exact this
theorem rangeL_upto (lo : Int) (n : Nat) : rangeL lo n = (upto lo n).map .int := rangeL_map lo n
theorem rng1_of {m : Int} (h0 : 0 ≤ m) (h1 : m ≤ 100000) : rng1D [.int m] = some ((upto 0 m.toNat).map .int) := by
  have : rngOk 0 m = true := decide_eq_true (by omega)
  show (if rngOk 0 m = true then some (rangeL 0 m.toNat) else none) = _
  rw [if_pos this, rangeL_upto]
theorem upto_len (lo : Int) (n : Nat) : (upto lo n).length = n := by simp [upto]
structure Near (L : Lot) : Prop extends LotOk L where
  m3 : L.m ≤ 180
  f3 : -410 ≤ L.first
  l3 : L.last ≤ 440
def Lots (K : Lot → Prop) (r : Res Fl) : Prop := ∃ L S', r = .ok (.rt (lotD L)) S' ∧ K L ∧ Box S'
def Small (L : Lot) : Prop := LotOk L ∧ L.m ≤ 60 ∧ -400 ≤ L.first ∧ L.last ≤ 430
theorem m_drawn {far : Int} (hS : Box S) (f0 : 3 ≤ far) (f1 : far ≤ 400) : ∃ L S', p__law_drawn_lot [.ref 0, .int far] S = .ok (lotD L) S' ∧ Small L ∧ Box S' := by
  suffices h : Lots Small (g__law_drawn_lot (envOf 13 [.ref 0, .int far]) S) by
    obtain ⟨L, S', h1, h2, h3⟩ := h
    exact ⟨L, S', fn_rt h1, h2, h3⟩
  obtain ⟨m, S1, mm, h1, b1⟩ := m_pick (xs := [1, 1, 2, 2, 3, 4, 5, 6, 6, 8, 9, 10, 12, 15, 16, 25, 30, 35, 49, 60]) hS (by simp) (by simp)
  simp only [List.map] at h1
  have mb : 1 ≤ m ∧ m ≤ 60 := by
    simp at mm
    omega
  have r1 := rng1_of (m := m) (by omega) (by omega)
  have dk : divOk m = true := divOk_of (by omega) (by omega)
  refine seq_P [.dat (.ref 0), .dat (.int far), .dat (.int m), .no, .no, .no, .no, .no, .no, .no, .no, .no, .no] S1 (by simp [envOf, ll, h1]) ?_
  refine seq_P [.dat (.ref 0), .dat (.int far), .dat (.int m), .own [], .no, .no, .no, .no, .no, .no, .no, .no, .no] S1 (by simp) ?_
  refine for_Q (S1 := S1) (fun ds e S => Box S ∧ ∃ own a b c, (∀ d ∈ own, ∃ xs, d = ti xs ∧ Rising xs 0 m) ∧ own.length + ds.length = 2 ∧ e = [.dat (.ref 0), .dat (.int far), .dat (.int m), .own own, a, b, c, .no, .no, .no, .no, .no, .no]) [.int 0, .int 1]
    (by simp [rng1D, rngOk, rangeL, List.range_succ]) ⟨b1, [], .no, .no, .no, by simp, rfl, rfl⟩ ?_ ?_
  · rintro d r e S2 ⟨b2, own, a, b, c, ho, hl, rfl⟩
    obtain ⟨w, S3, h3, w0, w1, b3⟩ := m_take (k := 5) b2 (by omega) (by omega)
    rw [List.length_cons] at hl
    refine ⟨_, rfl, ?_⟩
    refine seq_P [.dat (.ref 0), .dat (.int far), .dat (.int m), .own own, .dat d, .dat (.int w), c, .no, .no, .no, .no, .no, .no] S3 (by simp [h3]) ?_
    refine set_lc Box (upto 0 m.toNat) (by simp [r1]) b3 ?_ (by rw [upto_len, ll]; omega) ?_
    · intro x _ S4 b4
      obtain ⟨z, S5, h5, z0, z1, b5⟩ := m_take (k := 2) b4 (by omega) (by omega)
      exact ⟨_, decide (z = 0), S5, by simp; rfl, by simp [h5, eqI], b5, by simp⟩
    · intro ys S4 sub b4
      have ry := rising_mod (show 0 ≤ m by omega) sub
      have lk : own.length < 16777216 := by omega
      have fin : ∀ zs : List Int, Rising zs 0 m → ∀ d' ∈ own ++ [ti zs], ∃ xs, d' = ti xs ∧ Rising xs 0 m := fun zs hz d' hd => by
        rcases List.mem_append.mp hd with q | q
        · exact ho d' q
        · exact ⟨zs, List.mem_singleton.mp q, hz⟩
      by_cases c1 : 1 < w
      · exact ⟨[.dat (.ref 0), .dat (.int far), .dat (.int m), .own (own ++ [ti ys]), .dat d, .dat (.int w), .dat (li ys), .no, .no, .no, .no, .no, .no], S4, by simp [c1, ll, lk], b4, _, _, _, _, fin ys ry, by simp; omega, rfl⟩
      · by_cases c2 : w = 0
        · have lr : lrgOk m = true := decide_eq_true (by omega)
          exact ⟨[.dat (.ref 0), .dat (.int far), .dat (.int m), .own (own ++ [ti (upto 0 m.toNat)]), .dat d, .dat (.int w), .dat (li ys), .no, .no, .no, .no, .no, .no], S4, by simp [c2, ll, lk, eqI, lr, show 0 ≤ m by omega, rangeL_upto], b4, _, _, _, _, fin _ (rising_mod (by omega) (List.Sublist.refl _)), by simp; omega, rfl⟩
        · exact ⟨[.dat (.ref 0), .dat (.int far), .dat (.int m), .own (own ++ [ti []]), .dat d, .dat (.int w), .dat (li ys), .no, .no, .no, .no, .no, .no], S4, by simp [c1, c2, ll, lk, eqI], b4, _, _, _, _, fin [] ⟨List.Pairwise.nil, by simp⟩, by simp; omega, rfl⟩
  · rintro e' S2 ⟨b2, own, a, b, c, ho, hl, rfl⟩
    obtain ⟨d1, d2, rfl⟩ : ∃ d1 d2, own = [d1, d2] := by
      match own, hl with
      | [d1, d2], _ => exact ⟨d1, d2, rfl⟩
    obtain ⟨xs1, rfl, x1⟩ := ho d1 (by simp)
    obtain ⟨xs2, rfl, x2⟩ := ho d2 (by simp)
    obtain ⟨t, S3, h3, t0, t1, b3⟩ := m_take (k := 3) b2 (by omega) (by omega)
    refine seq_E (fun e1 S1 => S1 = S3 ∧ ∃ ys, Rising ys 0 m ∧ e1 = [.dat (.ref 0), .dat (.int far), .dat (.int m), .own [ti xs1, ti ys], a, b, c, .no, .no, .no, .no, .no, .no]) ?_ ?_
    · by_cases c1 : t = 0
      · exact ⟨_, S3, by simp [h3, eqI, c1, atI0, ixN], rfl, xs1, x1, rfl⟩
      · exact ⟨_, S3, by simp [h3, eqI, c1], rfl, xs2, x2, rfl⟩
    clear x2
    rintro e1 S9 ⟨rfl, ys, x2, rfl⟩
    obtain ⟨t, S4, h4, t0, t1, b4⟩ := m_take (k := 2 * far + 1) b3 (by omega) (by omega)
    have mk : mulOk 2 far = true := mulOk_lt (k := 100) (l := 100) (by decide) (by omega) (by omega)
    refine seq_P [.dat (.ref 0), .dat (.int far), .dat (.int m), .dat (.lst [ti xs1, ti ys]), a, b, c, .dat (.int (t - far)), .no, .no, .no, .no, .no] S4 (by simp [x_mul, mk, h4]) ?_
    obtain ⟨p, S5, mp, h5, b5⟩ := m_pick (xs := [1, 4, 12, 30]) b4 (by simp) (by simp)
    simp only [List.map] at h5
    have pb : 1 ≤ p ∧ p ≤ 30 := by
      simp at mp
      omega
    obtain ⟨u, S6, h6, u0, u1, b6⟩ := m_take (k := p) b5 (by omega) (by omega)
    refine seq_P [.dat (.ref 0), .dat (.int far), .dat (.int m), .dat (.lst [ti xs1, ti ys]), a, b, c, .dat (.int (t - far)), .dat (.int (t - far + u)), .no, .no, .no, .no] S6 (by simp [ll, h5, h6]) ?_
    obtain ⟨s, S7, h7, s0, s1, b7⟩ := m_take (k := 4) b6 (by omega) (by omega)
    refine seq_P [.dat (.ref 0), .dat (.int far), .dat (.int m), .dat (.lst [ti xs1, ti ys]), a, b, c, .dat (.int (t - far)), .dat (.int (t - far + u)), .dat (.int s), .no, .no, .no] S7 (by simp [h7]) ?_
    refine set_lcT Box (upto (t - far) (t - far + u - (t - far)).toNat) (by simp [rangeL_upto]) b7 ?_ (by rw [upto_len, ll]; omega) ?_
    · intro x _ S4 b4
      obtain ⟨z, S5, h5, z0, z1, b5⟩ := m_take (k := 4) b4 (by omega) (by omega)
      exact ⟨_, decide (z ≤ s), S5, by simp; rfl, by simp [h5], b5, by simp⟩
    · intro zs S8 sub b8
      have rz := rising_rng (show t - far ≤ t - far + u by omega) sub
      refine ⟨⟨m, xs1, t - far, zs, t - far + u, ys⟩, S8, by simp [atI0, atI1, ll], ⟨⟨?_, ?_, x1, x2, ?_, ?_, ?_, rz⟩, ?_, ?_, ?_⟩, b8⟩ <;> dsimp only <;> omega
end T79
set_option maxHeartbeats 1000000
namespace T79
open PySem PySem.Spec L2 DL N79
variable {L : Lot} {lo hi : Int} {S : Sto}
theorem filt_sub {α : Type} (p : α → Bool) (l : List α) : (l.filter p).Sublist l := List.filter_sublist
theorem m_other (hS : Box S) (h : Small L) : ∃ L' S', p__law_other_form [.ref 0, lotD L] S = .ok (lotD L') S' ∧ LotOk L' ∧ Box S' := by
  suffices h : Lots LotOk (g__law_other_form (envOf 9 [.ref 0, lotD L]) S) by
    obtain ⟨L, S', h1, h2, h3⟩ := h
    exact ⟨L, S', fn_rt h1, h2, h3⟩
  obtain ⟨h, mb, fb, lb⟩ := h
  have m1 := h.m1
  have fl := h.fl
  obtain ⟨p, S1, mp, h1, b1⟩ := m_pick (xs := [1, 2, 3]) hS (by simp) (by simp)
  simp only [List.map] at h1
  have pb : 1 ≤ p ∧ p ≤ 3 := by
    simp at mp
    omega
  have mk : mulOk L.m p = true := mulOk_lt (k := 100) (l := 100) (by omega) (by omega) (by omega)
  have mm : 1 ≤ L.m * p ∧ L.m * p ≤ 180 := by
    have : p = 1 ∨ p = 2 ∨ p = 3 := by omega
    rcases this with rfl | rfl | rfl <;> omega
  have dk : divOk L.m = true := divOk_of (by omega) (by omega)
  generalize hm : L.m * p = m at *
  have r1 := rng1_of (m := m) (by omega) (by omega)
  refine seq_P [.dat (.ref 0), .dat (lotD L), .dat (.int m), .no, .no, .no, .no, .no, .no] S1 (by simp [envOf, atI0, show L.m < 200 by omega, ll, h1, x_mul, mk, hm]) ?_
  obtain ⟨u, S2, h2, u0, u1, b2⟩ := m_take (k := 9) b1 (by omega) (by omega)
  obtain ⟨v, S3, h3, v0, v1, b3⟩ := m_take (k := 9) b2 (by omega) (by omega)
  refine seq_P [.dat (.ref 0), .dat (lotD L), .dat (.int m), .dat (.int (L.first - u)), .dat (.int (L.last + v)), .no, .no, .no, .no] S3 (by simp [atI2, atI4, h2, h3]) ?_
  refine set_lcT Box (upto 0 m.toNat) (by simp [r1]) b3 ?_ (by rw [upto_len, ll]; omega) ?_
  · intro x _ S4 b4
    exact ⟨_, L.below.contains (x % L.m), S4, by simp; rfl, by simp [atI0, atI1, x_mod, show 0 < L.m by omega, in_tup], b4, by simp⟩
  intro ys S4 sub b4
  have ry := rising_mod (show 0 ≤ m by omega) sub
  refine set_lcT Box (upto 0 m.toNat) (by simp [r1]) b4 ?_ (by rw [upto_len, ll]; omega) ?_
  · intro x _ S4 b4
    exact ⟨_, L.above.contains (x % L.m), S4, by simp; rfl, by simp [atI0, atI5, x_mod, show 0 < L.m by omega, in_tup], b4, by simp⟩
  intro zs S5 sub b5
  have rz := rising_mod (show 0 ≤ m by omega) sub
  have rn := rising_rng (show L.first - u ≤ L.last + v by omega) (filt_sub (has L) _)
  refine ⟨⟨m, ys, L.first - u, (upto (L.first - u) (L.last + v - (L.first - u)).toNat).filter (has L), L.last + v, zs⟩, S5, ?_, ⟨?_, ?_, ry, rz, ?_, ?_, ?_, rn⟩, b5⟩
  · simp only [x_ret, x_tup, x_cons, x_nil, x_cb, x_var, Res.bind_ok, List.getElem?_cons_succ, List.getElem?_cons_zero, List.set_cons_succ, List.set_cons_zero]
    rw [lc_val (upto (L.first - u) (L.last + v - (L.first - u)).toNat) (has L) (fun x => .int x) ?h1 ?h2 ?h3]
    case h1 => simp [rangeL_upto]
    case h2 =>
      intro x _
      exact ⟨_, by simp; rfl, by simp [m_law_has (show 0 < L.m by omega), truD], by simp⟩
    case h3 => rw [upto_len, ll]; omega
    simp [ll]
  all_goals dsimp only <;> omega
theorem m_law_count (h : LotOk L) (lo hi : Int) (S : Sto) : p__law_count [lotD L, .int lo, .int hi] S = .ok (.int (cnt L lo hi)) S := by
  have m0 : 0 < L.m := by have := h.m1; omega
  have m2 := h.m2
  have dk : divOk L.m = true := divOk_of (by omega) (by omega)
  refine fn_rt ?_
  refine seq_nx [.dat (lotD L), .dat (.int lo), .dat (.int hi), .dat (.lst [.tup [.int lo, .int (mn hi (L.first - 1)), ti L.below], .tup [.int (mx lo L.last), .int hi, ti L.above]]), .dat (li (cut L.between lo hi)), .no, .no, .no, .no, .no] S (by simp [envOf, m_law_sides h]) ?_
  refine seq_nx [.dat (lotD L), .dat (.int lo), .dat (.int hi), .dat (.lst [.tup [.int lo, .int (mn hi (L.first - 1)), ti L.below], .tup [.int (mx lo L.last), .int hi, ti L.above]]), .dat (li (cut L.between lo hi)), .dat (.int (cut L.between lo hi).length), .no, .no, .no, .no] S (by simp) ?_
  refine seq_for (S1 := S) (fun ds e S1 => S1 = S ∧ ∃ (qs : List (Int × Int × List Int)) (z : Int) (s3 s4 a b c d : DL.Slot), ds = qs.map (fun t => .tup [.int t.1, .int t.2.1, ti t.2.2]) ∧ (∀ t ∈ qs, t.2.2.length ≤ 100000) ∧
      e = [.dat (lotD L), .dat (.int lo), .dat (.int hi), s3, s4, .dat (.int z), a, b, c, d] ∧ z + (qs.map fun t => cntR t.2.2 L.m t.1 t.2.1).sum = cnt L lo hi)
    [.tup [.int lo, .int (mn hi (L.first - 1)), ti L.below], .tup [.int (mx lo L.last), .int hi, ti L.above]] (by simp)
    ⟨rfl, [(lo, mn hi (L.first - 1), L.below), (mx lo L.last, hi, L.above)], _, _, _, _, _, _, _, rfl, by simp; exact ⟨lenB h, lenA h⟩, rfl, by simp [cnt]⟩ ?_ ?_
  · rintro d r e S1 ⟨q, qs, z, s3, s4, a, b, c, d', e1, e2, e3, e4⟩
    subst q e3
    cases qs with
    | nil => cases e1
    | cons t qs =>
      obtain ⟨f, l, rs⟩ := t
      obtain ⟨rfl, rfl⟩ : d = .tup [.int f, .int l, ti rs] ∧ r = qs.map (fun t => .tup [.int t.1, .int t.2.1, ti t.2.2]) := by
        rw [List.map_cons] at e1
        exact List.cons.inj e1
      have lr := e2 (f, l, rs) List.mem_cons_self
      rw [List.map_cons, List.sum_cons] at e4
      by_cases c1 : f ≤ l
      · refine ⟨_, [.dat (lotD L), .dat (.int lo), .dat (.int hi), s3, s4, .dat (.int (z + cntR rs L.m f l)), .dat (.int f), .dat (.int l), .dat (ti rs), d'], S1, by simp; rfl, ?_, rfl, qs, _, _, _, _, _, _, _, rfl, fun t ht => e2 t (List.mem_cons_of_mem _ ht), rfl, by dsimp only at e4; omega⟩
        simp only [x_ifs, x_test, x_op, x_var, Res.bind_ok, List.getElem?_cons_succ, List.getElem?_cons_zero, x_cmp, lift_some, x_blOf, gE_ok, c1, decide_true, if_true, x_set, x_dat, x_cb, x_cons, x_nil]
        rw [lc_val rs (fun _ => true) (fun x => .int (N79.c1 L.m x f l)) ?h1 ?h2 ?h3]
        case h1 => simp
        case h2 =>
          intro x _
          exact ⟨_, by simp; rfl, by simp, by simp [x_fdiv, dk, atI0, N79.c1]⟩
        case h3 =>
          have := ll
          dsimp only at lr
          omega
        have : List.filter (fun _ => true) rs = rs := List.filter_eq_self.mpr fun _ _ => rfl
        rw [this, show (rs.map fun x => D.int (N79.c1 L.m x f l)) = (rs.map fun x => N79.c1 L.m x f l).map .int by rw [List.map_map]; rfl]
        simp only [Res.bind_ok, x_sum, lift_some, x_add, gE_ok]
        simp [cntR, cS, show ¬ l < f by omega]
      · refine ⟨_, [.dat (lotD L), .dat (.int lo), .dat (.int hi), s3, s4, .dat (.int z), .dat (.int f), .dat (.int l), .dat (ti rs), d'], S1, by simp; rfl, by simp [c1], rfl, qs, _, _, _, _, _, _, _, rfl, fun t ht => e2 t (List.mem_cons_of_mem _ ht), rfl, ?_⟩
        dsimp only at e4
        rw [cntR_lt (by omega)] at e4
        omega
  · rintro e' S' ⟨rfl, qs, z, s3, s4, a, b, c, d', e1, e2, rfl, e4⟩
    obtain rfl : qs = [] := by simpa using e1.symm
    simp at e4
    simp [e4]
theorem goes_for {gi : GI} {gt : D → Ev → Option Ev} {gb : GS} {e : Ev} {S S1 : Sto} {A : Ev → Sto → Prop} (I : List D → Ev → Sto → Prop) (ds : List D) (hi : gi e S = .ok ds S1) (i0 : I ds e S1)
    (h : ∀ d r e S, I (d :: r) e S → ∃ e1 e2 S2, gt d e = some e1 ∧ gb e1 S = .ok (.nx e2) S2 ∧ I r e2 S2) (k : ∀ e' S', I [] e' S' → A e' S') : Goes A (gFor gi gt gb e S) := by
  obtain ⟨e', S', h1, h2⟩ := for_inv I h ds e S1 i0
  exact ⟨e', S', by rw [x_for, hi]; exact h1, k e' S' h2⟩
theorem seq_forQ {gi : GI} {gt : D → Ev → Option Ev} {gb g2 : GS} {e : Ev} {S S1 : Sto} {r : Res Fl} (I : List D → Ev → Sto → Prop) (ds : List D) (hi : gi e S = .ok ds S1) (i0 : I ds e S1)
    (h : ∀ d r e S, I (d :: r) e S → ∃ e1, gt d e = some e1 ∧ Goes (I r) (gb e1 S)) (k : ∀ e' S', I [] e' S' → g2 e' S' = r) : gSeq (gFor gi gt gb) g2 e S = r :=
  seq_for I ds hi i0 (fun d r e S i => let ⟨e1, h1, e2, S2, h2, h3⟩ := h d r e S i; ⟨e1, e2, S2, h1, h2, h3⟩) k
theorem lSum_all {rs : List Int} {m f l : Int} (h : 0 < m) : (rs.map fun r => lS m r f l).sum = lSum rs m f l := by
  unfold lSum
  by_cases c : l < f
  · rw [if_pos c]
    induction rs with
    | nil => rfl
    | cons r rs ih =>
      have := start_ge (r := r) (lo := f) h
      rw [List.map_cons, List.sum_cons, ih]
      unfold lS many
      rw [if_neg (by omega)]
      simp
  · rw [if_neg c]
theorem m_law_sum (h : LotOk L) (l0 : -10^42 < lo) (l1 : lo < 10^42) (k0 : -10^42 < hi) (k1 : hi < 10^42) (S : Sto) : p__law_sum [lotD L, .int lo, .int hi] S = .ok (.int (tot L lo hi)) S := by
  have m0 : 0 < L.m := by have := h.m1; omega
  have m2 := h.m2
  have fb := h.f
  have fl := h.fl
  have lb := h.l
  have dk : divOk L.m = true := divOk_of (by omega) (by omega)
  have dk2 : divOk 2 = true := divOk_of (by omega) (by omega)
  have i1 := mn_le hi (L.first - 1)
  have i2 := mx_ge lo L.last
  have i3 : -10^42 < mn hi (L.first - 1) := by unfold mn; split <;> omega
  have i4 : mx lo L.last < 10^42 := by unfold mx; split <;> omega
  refine fn_rt ?_
  refine seq_nx [.dat (lotD L), .dat (.int lo), .dat (.int hi), .dat (.lst [.tup [.int lo, .int (mn hi (L.first - 1)), ti L.below], .tup [.int (mx lo L.last), .int hi, ti L.above]]), .dat (li (cut L.between lo hi)), .no, .no, .no, .no, .no, .no, .no] S (by simp [envOf, m_law_sides h]) ?_
  refine seq_nx [.dat (lotD L), .dat (.int lo), .dat (.int hi), .dat (.lst [.tup [.int lo, .int (mn hi (L.first - 1)), ti L.below], .tup [.int (mx lo L.last), .int hi, ti L.above]]), .dat (li (cut L.between lo hi)), .dat (.int (cut L.between lo hi).sum), .no, .no, .no, .no, .no, .no] S (by simp) ?_
  refine seq_forQ (S1 := S) (fun ds e S1 => S1 = S ∧ ∃ (qs : List (Int × Int × List Int)) (z : Int) (s3 s4 a b c d x y : DL.Slot), ds = qs.map (fun t => .tup [.int t.1, .int t.2.1, ti t.2.2]) ∧ (∀ t ∈ qs, -10^42 < t.1 ∧ t.1 < 10^42 ∧ -10^42 < t.2.1 ∧ t.2.1 < 10^42) ∧
      e = [.dat (lotD L), .dat (.int lo), .dat (.int hi), s3, s4, .dat (.int z), a, b, c, d, x, y] ∧ z + (qs.map fun t => lSum t.2.2 L.m t.1 t.2.1).sum = tot L lo hi)
    [.tup [.int lo, .int (mn hi (L.first - 1)), ti L.below], .tup [.int (mx lo L.last), .int hi, ti L.above]] (by simp)
    ⟨rfl, [(lo, mn hi (L.first - 1), L.below), (mx lo L.last, hi, L.above)], _, _, _, _, _, _, _, _, _, rfl, ?_, rfl, by simp [tot]⟩ ?_ ?_
  · intro t ht
    rcases List.mem_cons.mp ht with rfl | ht
    · dsimp only; omega
    · rw [List.mem_singleton.mp ht]; dsimp only; omega
  · rintro d r e S1 ⟨q, qs, z, s3, s4, a, b, c, d', x, y, e1, e2, e3, e4⟩
    subst q e3
    cases qs with
    | nil => cases e1
    | cons t qs =>
      obtain ⟨f, l, rs⟩ := t
      obtain ⟨rfl, rfl⟩ : d = .tup [.int f, .int l, ti rs] ∧ r = qs.map (fun t => .tup [.int t.1, .int t.2.1, ti t.2.2]) := by
        rw [List.map_cons] at e1
        exact List.cons.inj e1
      have bd := e2 (f, l, rs) List.mem_cons_self
      dsimp only at bd
      rw [List.map_cons, List.sum_cons] at e4
      dsimp only at e4
      refine ⟨[.dat (lotD L), .dat (.int lo), .dat (.int hi), s3, s4, .dat (.int z), .dat (.int f), .dat (.int l), .dat (ti rs), d', x, y], by simp, ?_⟩
      refine goes_for (S1 := S1) (fun ds e S2 => S2 = S1 ∧ ∃ (ps : List Int) (z9 : Int) (d x y : DL.Slot), ds = ps.map .int ∧ e = [.dat (lotD L), .dat (.int lo), .dat (.int hi), s3, s4, .dat (.int z9), .dat (.int f), .dat (.int l), .dat (ti rs), d, x, y] ∧ z9 + (ps.map fun r => lS L.m r f l).sum = z + lSum rs L.m f l)
        (rs.map .int) (by simp) ⟨rfl, rs, z, d', x, y, rfl, rfl, by rw [lSum_all m0]⟩ ?_ ?_
      · rintro d r e S2 ⟨rfl, ps, z9, d9, x9, y9, q1, rfl, q2⟩
        cases ps with
        | nil => cases q1
        | cons p ps =>
          obtain ⟨rfl, rfl⟩ : d = .int p ∧ r = ps.map .int := by simpa using q1
          rw [List.map_cons, List.sum_cons] at q2
          have sg := start_ge (r := p) (lo := f) m0
          have nn := many_nn (r := p) (lo := f) (hi := l) m0
          have ml : many L.m p f l < 10^43 := by
            unfold many
            split
            · have := Int.ediv_le_self (a := l - N79.start L.m p f) L.m (by omega)
              omega
            · omega
          have mq : 0 ≤ many L.m p f l * (many L.m p f l - 1) / 2 ∧ many L.m p f l * (many L.m p f l - 1) / 2 < 10^86 := by
            by_cases c : many L.m p f l = 0
            · rw [c]; decide
            · have h1 : 0 ≤ many L.m p f l * (many L.m p f l - 1) := Int.mul_nonneg nn (by omega)
              have h2 : many L.m p f l * (many L.m p f l - 1) ≤ 10^43 * 10^43 := Int.mul_le_mul (by omega) (by omega) (by omega) (by omega)
              omega
          have k1 : mulOk (many L.m p f l) (N79.start L.m p f) = true := mulOk_lt (k := 200) (l := 200) (by omega) (by omega) (by omega)
          have k2 : mulOk (many L.m p f l) (many L.m p f l - 1) = true := mulOk_lt (k := 200) (l := 200) (by omega) (by omega) (by omega)
          have k3 : mulOk L.m (many L.m p f l * (many L.m p f l - 1) / 2) = true := mulOk_lt (k := 200) (l := 400) (by omega) (by omega) (by omega)
          have st : f + (p - f) % L.m = N79.start L.m p f := rfl
          refine ⟨_, [.dat (lotD L), .dat (.int lo), .dat (.int hi), s3, s4, .dat (.int (z9 + lS L.m p f l)), .dat (.int f), .dat (.int l), .dat (ti rs), .dat (.int p), .dat (.int (N79.start L.m p f)), .dat (.int (many L.m p f l))], S2, by simp; rfl, ?_, rfl, ps, _, _, _, _, rfl, rfl, by omega⟩
          have hmany : gIf (gTest (gOp leD (gVar 10) (gVar 7))) (gOp addD (gOp fdivD (gOp subD (gVar 7) (gVar 10)) (gOp ixD (gVar 0) (gC (.int 0)))) (gC (.int 1))) (gC (.int 0)) [.dat (lotD L), .dat (.int lo), .dat (.int hi), s3, s4, .dat (.int z9), .dat (.int f), .dat (.int l), .dat (ti rs), .dat (.int p), .dat (.int (N79.start L.m p f)), y9] S2 = .ok (.int (many L.m p f l)) S2 := by
            unfold many
            by_cases c : N79.start L.m p f ≤ l
            · simp [c, x_fdiv, dk, atI0]
            · simp [c]
          refine seq_nx [.dat (lotD L), .dat (.int lo), .dat (.int hi), s3, s4, .dat (.int z9), .dat (.int f), .dat (.int l), .dat (ti rs), .dat (.int p), .dat (.int (N79.start L.m p f)), y9] S2 (by simp [atI0, x_mod, m0, st]) ?_
          refine seq_nx [.dat (lotD L), .dat (.int lo), .dat (.int hi), s3, s4, .dat (.int z9), .dat (.int f), .dat (.int l), .dat (ti rs), .dat (.int p), .dat (.int (N79.start L.m p f)), .dat (.int (many L.m p f l))] S2 ?_ ?_
          · rw [x_set, x_dat, hmany]
            simp
          · simp [x_mul, k1, k2, k3, x_fdiv, dk2, atI0, lS]
            omega
      · rintro e9 S9 ⟨rfl, ps, z9, d9, x9, y9, q1, rfl, q2⟩
        obtain rfl : ps = [] := by simpa using q1.symm
        have e9 : z9 = z + lSum rs L.m f l := by simpa using q2
        rw [e9]
        exact ⟨rfl, qs, _, _, _, _, _, _, _, _, _, rfl, fun t ht => e2 t (List.mem_cons_of_mem _ ht), rfl, by omega⟩
  · rintro e' S' ⟨rfl, qs, z, s3, s4, a, b, c, d', x, y, e1, e2, rfl, e4⟩
    obtain rfl : qs = [] := by simpa using e1.symm
    simp at e4
    simp [e4]
end T79
set_option maxHeartbeats 1000000
namespace T79
open PySem PySem.Spec L2 DL N79
variable {L : Lot} {lo hi : Int} {S : Sto}
theorem goes_one {A : Ev → Sto → Prop} {r : Res Fl} (e1 : Ev) (S1 : Sto) (h : r = .ok (.nx e1) S1) (a : A e1 S1) : Goes A r := ⟨e1, S1, h, a⟩
theorem m_is_int (n : Nat) (i : Int) (S : Sto) : p__law_is (n + 1) [.int i, .int i] S = .ok (.bl true) S := by
  refine fn_rt ?_
  simp [g__law_is, envOf, isiD, tyOf, subT, truD, isD, eqI]
theorem lc_none {gt : D → Ev → Option Ev} {gc : GT} {ge : GE} {e : Ev} {S : Sto} : ∀ (ds acc : List D), (∀ d ∈ ds, ∃ e2, gt d e = some e2 ∧ gc e2 S = .ok false S) → runLc gt gc ge e ds S acc = .ok acc S
  | [], acc, _ => rfl
  | d :: ds, acc, h => by
    obtain ⟨e2, h1, h2⟩ := h d List.mem_cons_self
    rw [runLc, h1]
    simp only [h2]
    exact lc_none ds acc fun x hx => h x (List.mem_cons_of_mem _ hx)
theorem zip_mem : ∀ (xs : List Int) (d : D), d ∈ zipL (xs.map .int) (xs.map .int) → ∃ x, d = .tup [.int x, .int x]
  | [], d, h => by simp [zipL] at h
  | x :: xs, d, h => by
    rw [List.map_cons, zipL] at h
    rcases List.mem_cons.mp h with rfl | h
    · exact ⟨x, rfl⟩
    · exact zip_mem xs d h
theorem lc_nil {gi : GI} {gt : D → Ev → Option Ev} {gc : GT} {ge : GE} {vs : List Nat} {e : Ev} {S : Sto} (ds : List D) (hi : gi e S = .ok ds S) (h : ∀ d ∈ ds, ∃ e2, gt d (wipeE e vs) = some e2 ∧ gc e2 S = .ok false S) : gLc gi gt gc ge vs e S = .ok (.lst []) S := by
  rw [x_lc, hi]
  show (runLc gt gc ge (wipeE e vs) ds S []).bind _ = _
  rw [lc_none ds [] h]
  rfl
theorem m_is_tup (n : Nat) (xs : List Int) (S : Sto) : p__law_is (n + 2) [ti xs, ti xs] S = .ok (.bl true) S := by
  refine fn_rt ?_
  refine seq_rt ?_
  simp only [x_ifs]
  have t1 : gTru (gCB isiD (gCons (gVar 1) (gCons (gC (.ty "tuple")) gNil))) (envOf 4 [ti xs, ti xs]) S = .ok true S := by simp [envOf, isiD, tyOf, subT, truD]
  rw [t1]
  simp only [gE_ok, if_true]
  refine seq_nx [.dat (ti xs), .dat (ti xs), .no, .no] S (by simp [envOf, isiD, tyOf, subT, truD, neI]) ?_
  simp only [x_ret, x_op]
  rw [lc_nil (zipL (xs.map .int) (xs.map .int)) ?h1 ?h2]
  case h1 => simp [zipD, seqD]
  case h2 =>
    intro d hd
    obtain ⟨x, rfl⟩ := zip_mem xs d hd
    exact ⟨_, by simp; rfl, by simp [m_is_int, truD]⟩
  simp [ll, eq_nil]
theorem walk2 (h : LotOk L) (lo hi : Int) : (((upto lo (hi + 1 - lo).toNat).filter (has L)).length : Int) = cnt L lo hi ∧ ((upto lo (hi + 1 - lo).toNat).filter (has L)).sum = tot L lo hi := by
  have w := walk h (lo := lo) (hi + 1 - lo).toNat
  by_cases c : hi + 1 < lo
  · have e : lo + ((hi + 1 - lo).toNat : Int) - 1 = lo - 1 := by omega
    rw [e, (cnt_lt (show lo - 1 < lo by omega)).1, (cnt_lt (show lo - 1 < lo by omega)).2] at w
    rw [(cnt_lt (show hi < lo by omega)).1, (cnt_lt (show hi < lo by omega)).2]
    exact w
  · have e : lo + ((hi + 1 - lo).toNat : Int) - 1 = hi := by omega
    rw [e] at w
    exact w
theorem m_stretch (h : LotOk L) (l0 : -10^40 < lo) (l1 : lo < 10^40) (h0 : -10^40 < hi) (h1 : hi < 10^40) (S : Sto) : p__law_stretch_right [lotD L, .int lo, .int hi] S = .ok (.bl true) S := by
  have m0 : 0 < L.m := by have := h.m1; omega
  have hs := m_law_sum h (lo := lo) (hi := hi) (by omega) (by omega) (by omega) (by omega) S
  have hc := m_law_count h
  have hm := m_how_many S h l0 l1 h0 h1
  have hp := m_place_in S h l0 l1 h0 h1
  have hq := m_sum_in S h l0 l1 h0 h1
  have i3 := m_is_tup 6 [cnt L lo hi, tot L lo hi, cnt L lo (hi - 1)] S
  have i2 := m_is_tup 6 [cnt L lo hi, tot L lo hi] S
  simp only [ti, List.map] at i3 i2
  refine fn_rt ?_
  refine seq_nx [.dat (lotD L), .dat (.int lo), .dat (.int hi), .dat (.int (cnt L lo hi)), .dat (.int (tot L lo hi)), .no, .no] S (by simp [envOf, hc, hs]) ?_
  refine seq_E (P := fun r => r = .ok (.rt (.bl true)) S) (fun e1 S1 => S1 = S ∧ ∃ a, e1 = [.dat (lotD L), .dat (.int lo), .dat (.int hi), .dat (.int (cnt L lo hi)), .dat (.int (tot L lo hi)), a, .no]) ?_ ?_
  · by_cases c : hi - lo < 400
    · refine goes_one [.dat (lotD L), .dat (.int lo), .dat (.int hi), .dat (.int (cnt L lo hi)), .dat (.int (tot L lo hi)), .dat (li ((upto lo (hi + 1 - lo).toNat).filter (has L))), .no] S ?_ ⟨rfl, _, rfl⟩
      have t1 : gTest (gOp ltD (gOp subD (gVar 2) (gVar 1)) (gC (.int 400))) [.dat (lotD L), .dat (.int lo), .dat (.int hi), .dat (.int (cnt L lo hi)), .dat (.int (tot L lo hi)), .no, .no] S = .ok true S := by simp [c]
      rw [x_ifs, t1]
      simp only [gE_ok, if_true]
      refine seq_nx [.dat (lotD L), .dat (.int lo), .dat (.int hi), .dat (.int (cnt L lo hi)), .dat (.int (tot L lo hi)), .dat (li ((upto lo (hi + 1 - lo).toNat).filter (has L))), .no] S ?_ ?_
      · simp only [x_set, x_dat]
        rw [lc_val (upto lo (hi + 1 - lo).toNat) (has L) (fun x => .int x) ?h1 ?h2 ?h3]
        case h1 => simp [rangeL_upto]
        case h2 =>
          intro x _
          exact ⟨_, by simp; rfl, by simp [m_law_has m0, truD], by simp⟩
        case h3 => rw [upto_len, ll]; omega
        simp
      · obtain ⟨w1, w2⟩ := walk2 h lo hi
        generalize (upto lo (hi + 1 - lo).toNat).filter (has L) = xs at *
        simp [ll, w1, w2, ne_two]
    · exact goes_one [.dat (lotD L), .dat (.int lo), .dat (.int hi), .dat (.int (cnt L lo hi)), .dat (.int (tot L lo hi)), .no, .no] S (by simp [c]) ⟨rfl, _, rfl⟩
  rintro e1 S1 ⟨rfl, a, rfl⟩
  simp [ll, hm, hq, hp, hc, i3, i2, truD]
end T79
set_option maxHeartbeats 1000000
namespace T79
open PySem PySem.Spec L2 DL N79
variable {L : Lot} {lo hi : Int} {S : Sto}
theorem m_law_int (i : Int) (S : Sto) : p__law_int [.int i] S = .ok (.bl true) S := by
  simp [p__law_int, g__law_int, x_fn, envOf, isiD, tyOf, subT]
def abI (i : Int) : Int := if i < 0 then -i else i
theorem abI_of (i : Int) : i ≤ abI i ∧ -i ≤ abI i ∧ (abI i = i ∨ abI i = -i) := by unfold abI; split <;> omega
def mx3 (a b c : Int) : Int := if (if a < b then b else a) < c then c else (if a < b then b else a)
theorem mx3_ge (a b c : Int) : a ≤ mx3 a b c ∧ b ≤ mx3 a b c ∧ c ≤ mx3 a b c := by unfold mx3; split <;> split at * <;> omega
theorem m_number {k : Int} (h : LotOk L) (l0 : -10^40 < lo) (l1 : lo < 10^40) (hk : 0 ≤ k) (hk2 : k < 10^41) (S : Sto) : p__law_number_right [lotD L, .int lo, .int k] S = .ok (.bl true) S := by
  have m0 : 0 < L.m := by have := h.m1; omega
  have m2 := h.m2
  have hn := m_number_in (low := 0) S h l0 l1 hk hk2
  have sp := nthOf_spec h (low := lo) hk
  have hc := m_law_count h
  have mk : mulOk L.m (k + 2) = true := mulOk_lt (k := 200) (l := 200) (by omega) (by omega) (by omega)
  obtain ⟨_, _, _, _, p40, _⟩ := pow_ok S
  refine fn_rt ?_
  have M := mx3_ge (abI L.first) (abI L.last) (abI lo)
  have A1 := abI_of L.first
  have A2 := abI_of L.last
  have A3 := abI_of lo
  generalize hB : mx3 (abI L.first) (abI L.last) (abI lo) = B at *
  unfold mx3 abI at hB
  cases hv : nthOf L lo k with
  | none =>
    rw [hv] at sp hn
    refine seq_nx [.dat (lotD L), .dat (.int lo), .dat (.int k), .dat .non, .no] S (by simp [envOf, hn, optD]) ?_
    refine seq_nx [.dat (lotD L), .dat (.int lo), .dat (.int k), .dat .non, .dat (.int (B + L.m * (k + 2) + 1))] S (by simp [atI0, atI2, atI4, x_mul, mk, ← hB]) ?_
    obtain ⟨s1, s2⟩ := sp
    have e : eqD S (ti L.above) (.tup []) = some (.bl true) := by rw [s1]; exact eq_nilT S
    unfold mx at s2
    simp [isD, atI4, atI5, e, ll, hc, s2]
  | some v =>
    rw [hv] at sp hn
    obtain ⟨s1, s2, s3, s4⟩ := sp
    have s5 := s4 B (by omega) (by omega) (by omega)
    refine seq_nx [.dat (lotD L), .dat (.int lo), .dat (.int k), .dat (.int v), .no] S (by simp [envOf, hn, optD]) ?_
    refine seq_nx [.dat (lotD L), .dat (.int lo), .dat (.int k), .dat (.int v), .dat (.int (B + L.m * (k + 2) + 1))] S (by simp [atI0, atI2, atI4, x_mul, mk, ← hB]) ?_
    refine seq_nx [.dat (lotD L), .dat (.int lo), .dat (.int k), .dat (.int v), .dat (.int (B + L.m * (k + 2) + 1))] S (by simp [isD]) ?_
    refine seq_nx [.dat (lotD L), .dat (.int lo), .dat (.int k), .dat (.int v), .dat (.int (B + L.m * (k + 2) + 1))] S ?_ ?_
    · simp [m_law_int, truD, m_law_has m0, s2, show ¬ v < lo by omega, show ¬ B + L.m * (k + 2) + 1 < v by omega]
    · refine seq_nx [.dat (lotD L), .dat (.int lo), .dat (.int k), .dat (.int v), .dat (.int (B + L.m * (k + 2) + 1))] S ?_ ?_
      · by_cases c : abI v < 10000000000000000000000000000000000000000
        · have A4 := abI_of v
          have hp := m_place_in S h l0 l1 (hi := v) (by omega) (by omega)
          rw [s3] at hp
          unfold abI at c
          simp [p40, c, hp, m_is_int 7, truD]
        · unfold abI at c
          simp [p40, c]
      · simp [hc, s3, eqI, hn, optD, m_is_int 7]
/-! the box -/
theorem cut_head {α : Type} (l : List α) : cutG l none (some 63) = l.take 63 := by
  unfold cutG
  rw [HT.sIx_none, show (some (63 : Int)) = some ((63 : Nat) : Int) from rfl, HT.sIx_nat]
  simp
def Refs (r : Res Fl) : Prop := ∃ S', r = .ok (.rt (.ref 0)) S' ∧ Box S'
theorem m_box {ns : List Int} (hb : ∀ n ∈ ns, n.natAbs < 2 ^ 1048577) : ∃ S', p__law_box [.scr ns, .int 79] [] = .ok (.ref 0) S' ∧ Box S' := by
  suffices h : Refs (g__law_box (envOf 7 [.scr ns, .int 79]) []) by
    obtain ⟨S', h1, h2⟩ := h
    exact ⟨S', fn_rt h1, h2⟩
  have mk : mulOk 4201 79 = true := mulOk_lt (k := 100) (l := 100) (by decide) (by decide) (by omega)
  have sl : sliceD [] none (some 63) (.scr ns) = some (li (ns.take 63)) := by
    show some (D.lst ((cutG ns none (some 63)).map .int)) = _
    rw [cut_head]
  obtain ⟨_, p18, _⟩ := pow_ok []
  refine seq_P [.dat (.scr ns), .dat (.int 79), .own [], .dat (.int 392792), .no, .no, .no] [] (by simp [envOf, x_mul, mk]) ?_
  refine for_Q (S1 := []) (fun ds e S => S = [] ∧ ∃ (k : Nat) (qs ow : List Int) (st : Int) (a b c : DL.Slot), ds = enumL k (qs.map .int) ∧ (∀ q ∈ qs, q ∈ ns) ∧ k + qs.length ≤ 63 ∧ ow.length ≤ k ∧ 0 ≤ st ∧ st < 2 ^ 32 ∧
      e = [.dat (.scr ns), .dat (.int 79), .own (ow.map .int), .dat (.int st), a, b, c]) (enumL 0 ((ns.take 63).map .int)) (by simp [sl])
    ⟨rfl, 0, ns.take 63, [], 392792, .no, .no, .no, rfl, fun q hq => List.mem_of_mem_take hq, by simp; omega, by simp, by omega, by omega, rfl⟩ ?_ ?_
  · rintro d r e S ⟨rfl, k, qs, ow, st, a, b, c, h1, h2, h3, h4, h5, h6, rfl⟩
    cases qs with
    | nil => cases h1
    | cons q qs =>
      obtain ⟨rfl, rfl⟩ : d = .tup [.int (k : Nat), .int q] ∧ r = enumL (k + 1) (qs.map .int) := by
        simp [enumL] at h1
        exact h1
      rw [List.length_cons] at h3
      have hq := hb q (h2 q List.mem_cons_self)
      have aq : (abI q).natAbs < 2 ^ 1048577 := by
        rcases (abI_of q).2.2 with z | z <;> rw [z]
        · exact hq
        · rw [Int.natAbs_neg]; exact hq
      have k1 : mulOk (abI q) 2 = true := mulOk_lt (k := 1048577) (l := 100) aq (by decide) (by omega)
      have k2 : mulOk st 48271 = true := mulOk_lt (k := 100) (l := 100) (by omega) (by decide) (by omega)
      have k3 : mulOk 2 (k : Int) = true := mulOk_lt (k := 100) (l := 100) (by decide) (by omega) (by omega)
      have n0 := Int.emod_nonneg (abI q * 2 + (if q < 0 then 1 else 0)) (show (2147483629 : Int) ≠ 0 by omega)
      have n1 := Int.emod_lt_of_pos (abI q * 2 + (if q < 0 then 1 else 0)) (show (0 : Int) < 2147483629 by omega)
      generalize hz : (abI q * 2 + (if q < 0 then 1 else 0)) % 2147483629 = z at *
      have k4 : mulOk z (2 * (k : Int) + 44927) = true := mulOk_lt (k := 100) (l := 100) (by omega) (by omega) (by omega)
      have v0 := Int.emod_nonneg (st * 48271 + z * (2 * (k : Int) + 44927) + 23) (show (2147483629 : Int) ≠ 0 by omega)
      have v1 := Int.emod_lt_of_pos (st * 48271 + z * (2 * (k : Int) + 44927) + 23) (show (0 : Int) < 2147483629 by omega)
      have lk : ow.length < 16777216 := by omega
      refine ⟨_, by simp; rfl, ?_⟩
      refine seq_P [.dat (.scr ns), .dat (.int 79), .own (ow.map .int), .dat (.int st), .dat (.int (k : Nat)), .dat (.int q), .dat (.int (abI q * 2 + (if q < 0 then 1 else 0)))] [] ?_ ?_
      · unfold abI at k1 ⊢
        by_cases c : q < 0 <;> simp [c] at k1 ⊢ <;> simp [x_mul, k1]
      refine seq_E (fun e1 S1 => S1 = [] ∧ ∃ ow' : List Int, ow'.length ≤ k + 1 ∧ e1 = [.dat (.scr ns), .dat (.int 79), .own (ow'.map .int), .dat (.int st), .dat (.int (k : Nat)), .dat (.int q), .dat (.int (abI q * 2 + (if q < 0 then 1 else 0)))]) ?_ ?_
      · by_cases c : 1000000000000000000 ≤ abI q
        · refine goes_one [.dat (.scr ns), .dat (.int 79), .own ((ow ++ [abI q]).map .int), .dat (.int st), .dat (.int (k : Nat)), .dat (.int q), .dat (.int (abI q * 2 + (if q < 0 then 1 else 0)))] [] ?_ ⟨rfl, ow ++ [abI q], by simp; omega, rfl⟩
          unfold abI at c ⊢
          simp [p18, c, lk, ll]
        · refine goes_one [.dat (.scr ns), .dat (.int 79), .own (ow.map .int), .dat (.int st), .dat (.int (k : Nat)), .dat (.int q), .dat (.int (abI q * 2 + (if q < 0 then 1 else 0)))] [] ?_ ⟨rfl, ow, by omega, rfl⟩
          unfold abI at c ⊢
          simp [p18, c]
      · rintro e1 S1 ⟨rfl, ow', hl, rfl⟩
        refine goes_one [.dat (.scr ns), .dat (.int 79), .own (ow'.map .int), .dat (.int ((st * 48271 + z * (2 * (k : Int) + 44927) + 23) % 2147483629 + 1)), .dat (.int (k : Nat)), .dat (.int q), .dat (.int (abI q * 2 + (if q < 0 then 1 else 0)))] [] ?_
          ⟨rfl, k + 1, qs, ow', _, _, _, _, rfl, fun x hx => h2 x (List.mem_cons_of_mem _ hx), by omega, hl, by omega, by omega, rfl⟩
        simp [x_mul, k2, k3, k4, x_mod, hz]
  · rintro e S ⟨rfl, k, qs, ow, st, a, b, c, h1, h2, h3, h4, h5, h6, rfl⟩
    refine ⟨[.lst [li ow, .int st]], ?_, ow, st, rfl, h5, h6, by omega⟩
    simp [ll]
end T79
set_option maxHeartbeats 1000000
namespace T79
open PySem PySem.Spec L2 DL N79
variable {L : Lot} {lo hi : Int} {S : Sto}
def lot2 : Lot := ⟨6, [0, 2, 5], 1, [], 1, [2, 5]⟩
theorem lot2_ok : LotOk lot2 := ⟨by decide, by decide, ⟨by decide, by decide⟩, ⟨by decide, by decide⟩, by decide, by decide, by decide, ⟨by decide, by decide⟩⟩
theorem v1 : cnt lot2 (-6) 6 = 6 := by decide +kernel
theorem s2 : steps [2, 5] 6 1 = [1, 4] := by
  unfold steps
  rw [show [2, 5].map (stp 6 1) = [1, 4] from by decide]
  exact List.mergeSort_of_pairwise (by decide)
theorem v2 : nthOf lot2 (-3) 2 = some 2 := by
  have c : cntR lot2.below lot2.m (-3) (lot2.first - 1) = 2 := by decide +kernel
  have b : (lot2.between.filter fun x => decide (-3 ≤ x)) = [] := rfl
  have x : mx (-3) lot2.last = 1 := by decide
  unfold nthOf
  rw [c, b, x]
  show some (nthR [2, 5] 6 1 0) = some 2
  unfold nthR
  rw [s2]
  decide
theorem v3 : cnt lot2 (-6) 1 = 4 := by decide +kernel
theorem v4 : tot lot2 (-6) 6 = -4 := by decide +kernel
def At (ns : List Int) (L : Lot) (S : Sto) (e : Ev) : Prop := Box S ∧ ∃ a c d f g h i : DL.Slot, e = [.dat (.scr ns), .dat (.ref 0), a, .dat (lotD L), c, d, f, g, h, i]
theorem pick4 {a b c d : Int} (hS : Box S) : ∃ v S', (v = a ∨ v = b ∨ v = c ∨ v = d) ∧ p__law_pick [.ref 0, .lst [.int a, .int b, .int c, .int d]] S = .ok (.int v) S' ∧ Box S' := by
  obtain ⟨v, S', m, h1, h2⟩ := m_pick (xs := [a, b, c, d]) hS (by simp) (by simp)
  exact ⟨v, S', by simpa using m, h1, h2⟩
theorem goes_forQ {gi : GI} {gt : D → Ev → Option Ev} {gb : GS} {e : Ev} {S S1 : Sto} {A : Ev → Sto → Prop} (I : List D → Ev → Sto → Prop) (ds : List D) (hi : gi e S = .ok ds S1) (i0 : I ds e S1)
    (h : ∀ d r e S, I (d :: r) e S → ∃ e1, gt d e = some e1 ∧ Goes (I r) (gb e1 S)) (k : ∀ e' S', I [] e' S' → A e' S') : Goes A (gFor gi gt gb e S) :=
  goes_for I ds hi i0 (fun d r e S i => let ⟨e1, h1, e2, S2, h2, h3⟩ := h d r e S i; ⟨e1, e2, S2, h1, h2, h3⟩) k
theorem law_ends {ns : List Int} (hb : ∀ n ∈ ns, n.natAbs < 2 ^ 1048577) : ∃ S', p_law [.scr ns] [] = .ok (.bl true) S' := by
  suffices h : (∃ S', g_law (envOf 10 [.scr ns]) [] = .ok (.rt (.bl true)) S') by
    obtain ⟨S', h1⟩ := h
    exact ⟨S', fn_rt h1⟩
  obtain ⟨S0, h0, b0⟩ := m_box hb
  refine seq_P (P := fun r => ∃ S', r = .ok (.rt (.bl true)) S') [.dat (.scr ns), .dat (.ref 0), .no, .no, .no, .no, .no, .no, .no, .no] S0 (by simp [envOf, h0]) ?_
  refine for_Q (P := fun r => ∃ S', r = .ok (.rt (.bl true)) S') (S1 := S0) (fun ds e S => Box S ∧ ∃ a b c d f g h i : DL.Slot, e = [.dat (.scr ns), .dat (.ref 0), a, b, c, d, f, g, h, i]) (rangeL 0 8) (by simp [rng1D, rngOk]) ⟨b0, _, _, _, _, _, _, _, _, rfl⟩ ?_ ?_
  · rintro t r e S ⟨bS, a, b, c, d, f, g, h, i, rfl⟩
    refine ⟨[.dat (.scr ns), .dat (.ref 0), .dat t, b, c, d, f, g, h, i], rfl, ?_⟩
    obtain ⟨far, S1, mf, h1, b1⟩ := m_pick (xs := [3, 20, 400]) bS (by simp) (by simp)
    simp only [List.map] at h1
    have fb : 3 ≤ far ∧ far ≤ 400 := by
      simp at mf
      omega
    obtain ⟨L0, S2, h2, sm, b2⟩ := m_drawn b1 fb.1 fb.2
    refine seq_P [.dat (.scr ns), .dat (.ref 0), .dat t, .dat (lotD L0), c, d, f, g, h, i] S2 (by simp [ll, h1, h2]) ?_
    refine seq_E (fun e S => Box S ∧ ∃ L, LotOk L ∧ e = [.dat (.scr ns), .dat (.ref 0), .dat t, .dat (lotD L), c, d, f, g, h, i]) ?_ ?_
    · obtain ⟨z, S3, h3, z0, z1, b3⟩ := m_take (k := 3) b2 (by omega) (by omega)
      by_cases c1 : z = 0
      · obtain ⟨L', S4, h4, ok, b4⟩ := m_other b3 sm
        exact goes_one [.dat (.scr ns), .dat (.ref 0), .dat t, .dat (lotD L'), c, d, f, g, h, i] S4 (by simp [h3, eqI, c1, h4]) ⟨b4, L', ok, rfl⟩
      · exact goes_one [.dat (.scr ns), .dat (.ref 0), .dat t, .dat (lotD L0), c, d, f, g, h, i] S3 (by simp [h3, eqI, c1]) ⟨b3, L0, sm.1, rfl⟩
    rintro e S5 ⟨b5, L, ok, rfl⟩
    refine goes_forQ (S1 := S5) (fun ds e S => At ns L S e) (rangeL 0 4) (by simp [rng1D, rngOk]) ⟨b5, _, _, _, _, _, _, _, rfl⟩ ?_ ?_
    · rintro m r e S ⟨bS, a, c, d, f, g, h, i, rfl⟩
      refine ⟨[.dat (.scr ns), .dat (.ref 0), a, .dat (lotD L), .dat m, d, f, g, h, i], rfl, ?_⟩
      obtain ⟨lo, S1, h1, l0, l1, b1⟩ := m_wide bS
      refine seq_P [.dat (.scr ns), .dat (.ref 0), a, .dat (lotD L), .dat m, .dat (.int lo), f, g, h, i] S1 (by simp [h1]) ?_
      obtain ⟨w, S2, h2, w0, w1, b2⟩ := m_wide b1
      obtain ⟨u, S3, h3, u0, u1, b3⟩ := m_take (k := 90) b2 (by omega) (by omega)
      obtain ⟨hi, S4, mh, h4, b4⟩ := pick4 (a := w) (b := lo + u) (c := lo - 1) (d := lo) b3
      have hb0 : -3000000000000000000000000000000000000000 < hi := by omega
      have hb1 : hi < 3000000000000000000000000000000000000000 := by omega
      refine seq_P [.dat (.scr ns), .dat (.ref 0), a, .dat (lotD L), .dat m, .dat (.int lo), .dat (.int hi), g, h, i] S4 (by simp [h2, h3, ll, h4]) ?_
      have st := m_stretch ok (lo := lo) (hi := hi) (by omega) (by omega) (by omega) (by omega) S4
      refine seq_P [.dat (.scr ns), .dat (.ref 0), a, .dat (lotD L), .dat m, .dat (.int lo), .dat (.int hi), g, h, i] S4 (by simp [st, truD]) ?_
      obtain ⟨md, S5, h5, m0, m1, b5⟩ := m_wide b4
      refine seq_P [.dat (.scr ns), .dat (.ref 0), a, .dat (lotD L), .dat m, .dat (.int lo), .dat (.int hi), .dat (.int md), h, i] S5 (by simp [h5]) ?_
      refine seq_P [.dat (.scr ns), .dat (.ref 0), a, .dat (lotD L), .dat m, .dat (.int lo), .dat (.int hi), .dat (.int md), h, i] S5 ?_ ?_
      · by_cases c1 : lo ≤ md
        · by_cases c2 : md < hi
          · have q1 := m_how_many S5 ok (lo := lo) (hi := hi) (by omega) (by omega) (by omega) (by omega)
            have q2 := m_how_many S5 ok (lo := lo) (hi := md) (by omega) (by omega) (by omega) (by omega)
            have q3 := m_how_many S5 ok (lo := md + 1) (hi := hi) (by omega) (by omega) (by omega) (by omega)
            have j := cnt_join ok (lo := lo) (mid := md) (by omega) (hi - md).toNat
            rw [show md + ((hi - md).toNat : Int) = hi by omega] at j
            simp [c1, c2, q1, q2, q3, neI, j]
          · simp [c1, c2]
        · simp [c1]
      refine seq_P [.dat (.scr ns), .dat (.ref 0), a, .dat (lotD L), .dat m, .dat (.int lo), .dat (.int hi), .dat (.int md), h, i] S5 ?_ ?_
      · by_cases c1 : hi < lo
        · have q1 := m_how_many S5 ok (lo := lo) (hi := hi) (by omega) (by omega) (by omega) (by omega)
          have q2 := m_sum_in S5 ok (lo := lo) (hi := hi) (by omega) (by omega) (by omega) (by omega)
          rw [(cnt_lt c1).1] at q1
          rw [(cnt_lt c1).2] at q2
          have i2 := m_is_tup 6 [0, 0] S5
          simp only [ti, List.map] at i2
          simp [c1, q1, q2, ll, i2, truD]
        · simp [c1]
      obtain ⟨k1, S6, h6, k10, k11, b6⟩ := m_take (k := 60) b5 (by omega) (by omega)
      obtain ⟨k2, S7, h7, k20, k21, b7⟩ := m_take (k := 1000000000) b6 (by omega) (by omega)
      obtain ⟨k3, S8, h8, k30, k31, b8⟩ := m_take (k := 99) b7 (by omega) (by omega)
      obtain ⟨_, p18, _⟩ := pow_ok S6
      obtain ⟨_, _, _, p9, _⟩ := pow_ok S6
      obtain ⟨_, _, _, _, _, p41⟩ := pow_ok S7
      refine goes_for (S1 := S8) (fun ds e S => Box S ∧ (∃ qs : List Int, ds = qs.map .int ∧ ∀ q ∈ qs, 0 ≤ q ∧ q < 10 ^ 41) ∧ ∃ j : DL.Slot, e = [.dat (.scr ns), .dat (.ref 0), a, .dat (lotD L), .dat m, .dat (.int lo), .dat (.int hi), .dat (.int md), j, i])
        [.int 0, .int k1, .int (1000000000000000000 + k2), .int (100000000000000000000000000000000000000000 - 1 - k3)] (by simp [h6, h7, h8, p18, p9, p41, ll])
        ⟨b8, ⟨[0, k1, 1000000000000000000 + k2, 100000000000000000000000000000000000000000 - 1 - k3], rfl, by simp; omega⟩, h, rfl⟩ ?_ ?_
      · rintro d r e S ⟨bS, ⟨qs, e1, e2⟩, j, rfl⟩
        cases qs with
        | nil => cases e1
        | cons q qs =>
          obtain ⟨rfl, rfl⟩ : d = .int q ∧ r = qs.map .int := by simpa using e1
          have hq := e2 q List.mem_cons_self
          have hn := m_number ok (lo := lo) (k := q) (by omega) (by omega) hq.1 hq.2 S
          exact ⟨_, [.dat (.scr ns), .dat (.ref 0), a, .dat (lotD L), .dat m, .dat (.int lo), .dat (.int hi), .dat (.int md), .dat (.int q), i], S, by simp; rfl, by simp [hn, truD], bS, ⟨qs, rfl, fun x hx => e2 x (List.mem_cons_of_mem _ hx)⟩, _, rfl⟩
      · rintro e S ⟨bS, _, j, rfl⟩
        exact ⟨bS, _, _, _, _, _, _, _, rfl⟩
    · rintro e S ⟨bS, a, c, d, f, g, h, i, rfl⟩
      exact ⟨bS, _, _, _, _, _, _, _, _, rfl⟩
  · rintro e S ⟨bS, a, b, c, d, f, g, h, i, rfl⟩
    have q1 := m_how_many S lot2_ok (lo := -6) (hi := 6) (by omega) (by omega) (by omega) (by omega)
    have q2 := m_number_in S lot2_ok (low := 0) (lo := -3) (k := 2) (by omega) (by omega) (by omega) (by omega)
    have q3 := m_place_in S lot2_ok (lo := -6) (hi := 2) (by omega) (by omega) (by omega) (by omega)
    have q4 := m_sum_in S lot2_ok (lo := -6) (hi := 6) (by omega) (by omega) (by omega) (by omega)
    rw [v1] at q1
    rw [v2] at q2
    rw [show (2 : Int) - 1 = 1 from rfl, v3] at q3
    rw [v4] at q4
    have i4 := m_is_tup 6 [6, 2, 4, -4] S
    simp only [ti, List.map] at i4
    simp only [lotD, lot2, ti, List.map, optD] at q1 q2 q3 q4
    refine ⟨S, seq_nx [.dat (.scr ns), .dat (.ref 0), a, b, c, d, f, g, h, .dat (.tup [.int 6, .tup [.int 0, .int 2, .int 5], .int 1, .tup [], .int 1, .tup [.int 2, .int 5]])] S (by simp [ll]) ?_⟩
    simp [ll, q1, q2, q3, q4, i4]
end T79
set_option maxHeartbeats 2000000
namespace DL
open PySem PySem.Spec L2
/-! ### the end of a law over data -/
section
variable {K : PySem.W.Frag} {h : Heap} {mg : Str → Option Value}
theorem fn_mk {x : Str} {st : Stmt} {f : Addr} {oc : Value} {od an : Option Addr} {osl : Array (Option Value)} {kV doc pm cdv ct : Value} (X : K.In h) (G : h.Ns mainGlobals mg) (a : PySem.W.nsIn K mainGlobals x = some (some (.ref f)))
    (l : K.lookup f = some ⟨oc, od, .func (PySem.W.fnOf x x (defArgs st) (defBody st) (defScope st) .none kV doc pm an cdv ct), osl⟩) (c : PySem.W.codeIn K cdv x = true) (k : PySem.W.keepIn K (.ref f) = true) : Fn K mg x st [] :=
  ⟨f, _, ⟨⟨oc, od, .none, kV, doc, pm, an, cdv, ct, osl, rfl, l, c, .inl ⟨rfl, rfl⟩, .inl rfl⟩, k⟩, PySem.W.mg_of X G a⟩
theorem fn_mk1 {x : Str} {st : Stmt} {f T : Addr} {oc oc' : Value} {od an od' : Option Addr} {osl osl' : Array (Option Value)} {kV doc pm cdv ct : Value} {n : Nat} {i : Int} {t : Tok} (X : K.In h) (G : h.Ns mainGlobals mg) (a : PySem.W.nsIn K mainGlobals x = some (some (.ref f)))
    (l : K.lookup f = some ⟨oc, od, .func (PySem.W.fnOf x x (defArgs st) (defBody st) (defScope st) (.ref T) kV doc pm an cdv ct), osl⟩) (lT : K.lookup T = some ⟨oc', od', .seq #[.int i t] n, osl'⟩) (c : PySem.W.codeIn K cdv x = true) (k : PySem.W.keepIn K (.ref f) = true) : Fn K mg x st [.int i] :=
  ⟨f, _, ⟨⟨oc, od, .ref T, kV, doc, pm, an, cdv, ct, osl, rfl, l, c, .inr ⟨by simp, T, _, [.int i t], n, rfl, lT, rfl, .cons ⟨t, rfl⟩ .nil⟩, .inl rfl⟩, k⟩, PySem.W.mg_of X G a⟩
theorem fn_mk2 {x : Str} {st : Stmt} {f T : Addr} {oc oc' : Value} {od an od' : Option Addr} {osl osl' : Array (Option Value)} {kV doc pm cdv ct : Value} {n : Nat} {i j : Int} {t t' : Tok} (X : K.In h) (G : h.Ns mainGlobals mg) (a : PySem.W.nsIn K mainGlobals x = some (some (.ref f)))
    (l : K.lookup f = some ⟨oc, od, .func (PySem.W.fnOf x x (defArgs st) (defBody st) (defScope st) (.ref T) kV doc pm an cdv ct), osl⟩) (lT : K.lookup T = some ⟨oc', od', .seq #[.int i t, .int j t'] n, osl'⟩) (c : PySem.W.codeIn K cdv x = true) (k : PySem.W.keepIn K (.ref f) = true) : Fn K mg x st [.int i, .int j] :=
  ⟨f, _, ⟨⟨oc, od, .ref T, kV, doc, pm, an, cdv, ct, osl, rfl, l, c, .inr ⟨by simp, T, _, [.int i t, .int j t'], n, rfl, lT, rfl, .cons ⟨t, rfl⟩ (.cons ⟨t', rfl⟩ .nil)⟩, .inl rfl⟩, k⟩, PySem.W.mg_of X G a⟩
theorem con_mk {x : Str} {i : Int} {t : Tok} (X : K.In h) (G : h.Ns mainGlobals mg) (a : PySem.W.nsIn K mainGlobals x = some (some (.int i t))) : ∃ t, mg x = some (.int i t) := ⟨t, PySem.W.mg_of X G a⟩
theorem blt_mk {x : Str} (X : K.In h) (G : h.Ns mainGlobals mg) (a : PySem.W.nsIn K mainGlobals x = some none) : mg x = none := PySem.W.mg_none_of X G a
end
theorem law_fd {P : Program} {w : World} {K : PySem.W.Frag} {mg : Str → Option Value} {fa : Addr} {k : Nat} {st : Stmt} {φ : Phi} (F : Fn K mg "law" st []) (hfa : mg "law" = some (.ref fa))
    (hb : ∀ (kV doc pm : Value) (an : Option Addr) (cdv ct : Value) (us : List Value), us.length = ["script"].length → bindArgs (PySem.W.fnOf "law" "law" (defArgs st) (defBody st) (defScope st) .none kV doc pm an cdv ct) ⟨us, []⟩ = pure ((["script"] : List Str).zip us))
    (ok : ∀ base : Heap, Ok P w K mg base k "law" st [] ["script"] φ) :
    ∃ fd : FuncData, (∀ (s : Shared) (v : Value), BindsTo s fd ⟨[v], []⟩ [("script", v)]) ∧ ∀ base : Heap, K.In base → base.Ns mainGlobals mg → FnOk P w K mg base (L2.CX P w) k fa fd ["script"] (spD K 1 φ) := by
  obtain ⟨a, fd, D, m⟩ := F
  have e := hfa.symm.trans m
  cases e
  have b := FunD.bindsA (ps := ["script"]) D hb
  refine ⟨fd, fun s v => b s [v] rfl, fun base _ _ => ?_⟩
  obtain ⟨a', fd', D', m', o⟩ := ok base
  have e := hfa.symm.trans m'
  cases e
  obtain ⟨oc, od, dV, kV, doc, pm, an, cdv, ct, osl, _, l, _, _, _⟩ := D.ex
  obtain ⟨oc', od', dV', kV', doc', pm', an', cdv', ct', osl', _, l', _, _, _⟩ := D'.ex
  have e := l.symm.trans l'
  have e2 : fd = fd' := by
    injection e with e
    injection e with _ _ e _
    injection e
  subst e2
  exact o
theorem bits_lt {z : Int} (h : Builtin.Int.intBits z ≤ 1048576) : z.natAbs < 2 ^ 1048577 := by
  unfold Builtin.Int.intBits at h
  by_cases c : z = 0
  · subst c
    exact Nat.pow_pos (by omega)
  · have c2 : (z == 0) = false := by simpa using c
    rw [c2] at h
    have h2 : z.natAbs.log2 + 1 ≤ 1048576 := by simpa using h
    exact (Nat.log2_lt (by omega)).mp (by omega)
theorem walk_D {l : PySem.W.OpenLaw} {k : Nat} {q : Program} {loose : List Str} {XP : (Str → Option Value) → Heap → Prop} {YP : World → Heap → Prop} {d : DefRec} {K : Params → PySem.W.Frag} {φ : Phi}
    (hn : l.most = some 63) (hdf : d.params.defaults = []) (hr : Room k callerA) (hd : d.name = "law") (hY : ∀ (w : World) (h : Heap), YP w h → (K w.params).In h)
    (F : ∀ (w : World) (mg : Str → Option Value) (fa : Addr) (h : Heap), (K w.params).In h → h.Ns mainGlobals mg → mg "law" = some (.ref fa) →
      ∃ fd : FuncData, (∀ (s : Shared) (u : Value), BindsTo s fd ⟨[u], []⟩ [("script", u)]) ∧
        ∀ base : Heap, (K w.params).In base → base.Ns mainGlobals mg → FnOk l.prog w (K w.params) mg base (L2.CX l.prog w) k fa fd ["script"] (spD (K w.params) 1 φ))
    (hφ : ∀ ns : List Int, ns.length ≤ 63 → (∀ n ∈ ns, n.natAbs < 2 ^ 1048577) → ∃ S', φ [.scr ns] [] = .ok (.bl true) S') :
    PySem.W.WalkO q loose XP YP l.row.toRowW d [] (fun f vs => PySem.call f vs) := by
  refine L2.walk_ofB (n := 63) (k := k) (x := "script") (K := K) (CX := fun w => L2.CX l.prog w) (sp := fun w => spD (K w.params) 1 φ) hn (by decide) hdf hr hY (fun w mg fa h X G hm => F w mg fa h X G (by rw [hd] at hm; exact hm)) ?_ ?_
  · intro w H a ns hl hb hO hS
    obtain ⟨S', e⟩ := hφ ns hl fun z hz => bits_lt (hb z hz)
    refine ⟨[], H, [], [.scr ns], rfl, ⟨fun _ _ h => h, rfl, List.nodup_nil, fun i b o h => by simp at h⟩, Reps.cons ⟨a, rfl, hS⟩ Reps.nil, ?_⟩
    rw [e]
    exact fun v H' α' F' _ _ r => r
  · rintro w H s e s' ⟨_, _, _, _, _, _, _, _, _, _, _, _, z⟩
    exact z
end DL
namespace T79
open PySem PySem.Spec L2 DL
theorem end_fd {P : Program} {w : World} {K : PySem.W.Frag} {h : Heap} {mg : Str → Option Value} {fa : Addr} (X : K.In h) (G : h.Ns mainGlobals mg) (hfa : mg "law" = some (.ref fa)) (T : Txt K mg) :
    ∃ fd : FuncData, (∀ (s : Shared) (v : Value), BindsTo s fd ⟨[v], []⟩ [("script", v)]) ∧ ∀ base : Heap, K.In base → base.Ns mainGlobals mg → FnOk P w K mg base (L2.CX P w) 11 fa fd ["script"] (spD K 1 p_law) :=
  law_fd T.f_law hfa (fun _ _ _ _ _ _ us hl => match us, hl with | [_], _ => rfl) fun base => ok_law T
end T79
open PySem PySem.W PyProof.Rows in
set_option maxRecDepth 100000 in
set_option maxHeartbeats 0 in
theorem PySem.Challenge.cw_fewleaps_k79_whole_how_many_holds : PySem.Challenge.rw_fewleaps_k79_whole_how_many.Holds := by
  w_on; o_law; k_head; (case hw => w_witness2)
  k_fill
  refine' DL.walk_D (l := PySem.Challenge.rw_fewleaps_k79_whole_how_many) (k := 11) (φ := T79.p_law) rfl rfl ⟨rfl, by decide, by decide⟩ rfl (fun w h Y => PySem.W.kIn_of Y) ?F (fun ns _ hb => T79.law_ends hb)
  case F =>
    intro w mg fa h KX G hmg
    refine' T79.end_fd KX G hmg ⟨?f_is_integer, ?f_is_below, ?f_need_number, ?f_are_rising, ?f_is_end, ?f_is_lot, ?f_need_lot, ?f_counted, ?f_parts_of, ?f_many_in, ?f_need_stretch, ?f_how_many, ?f_nth_rest, ?f_nth_of, ?f_need_index, ?f_number_in, ?f_place_in, ?f_summed, ?f_sum_in, ?f__law_box, ?f__law_take, ?f__law_pick, ?f__law_is, ?f__law_int, ?f__law_has, ?f__law_drawn_lot, ?f__law_other_form, ?f__law_sides, ?f__law_count, ?f__law_sum, ?f__law_wide_number_of, ?f__law_stretch_right, ?f__law_number_right, ?f_law, ?z_abs, ?z_bool, ?z_enumerate, ?z_int, ?z_isinstance, ?z_len, ?z_list, ?z_max, ?z_min, ?z_range, ?z_sorted, ?z_str, ?z_sum, ?z_tuple, ?z_zip, ?c_MOST_BOUND, ?c_MOST_INDEX, ?c_MOST_MODULUS⟩
    (case f_is_integer => (refine' DL.fn_mk KX G ?a ?l ?c ?k; (case a => k_is); (case l => k_is); (case c => k_is); (case k => k_is)))
    (case f_is_below => (refine' DL.fn_mk KX G ?a ?l ?c ?k; (case a => k_is); (case l => k_is); (case c => k_is); (case k => k_is)))
    (case f_need_number => (refine' DL.fn_mk2 KX G ?a ?l ?lT ?c ?k; (case a => k_is); (case l => k_is); (case lT => k_is); (case c => k_is); (case k => k_is)))
    (case f_are_rising => (refine' DL.fn_mk KX G ?a ?l ?c ?k; (case a => k_is); (case l => k_is); (case c => k_is); (case k => k_is)))
    (case f_is_end => (refine' DL.fn_mk KX G ?a ?l ?c ?k; (case a => k_is); (case l => k_is); (case c => k_is); (case k => k_is)))
    (case f_is_lot => (refine' DL.fn_mk KX G ?a ?l ?c ?k; (case a => k_is); (case l => k_is); (case c => k_is); (case k => k_is)))
    (case f_need_lot => (refine' DL.fn_mk1 KX G ?a ?l ?lT ?c ?k; (case a => k_is); (case l => k_is); (case lT => k_is); (case c => k_is); (case k => k_is)))
    (case f_counted => (refine' DL.fn_mk KX G ?a ?l ?c ?k; (case a => k_is); (case l => k_is); (case c => k_is); (case k => k_is)))
    (case f_parts_of => (refine' DL.fn_mk KX G ?a ?l ?c ?k; (case a => k_is); (case l => k_is); (case c => k_is); (case k => k_is)))
    (case f_many_in => (refine' DL.fn_mk KX G ?a ?l ?c ?k; (case a => k_is); (case l => k_is); (case c => k_is); (case k => k_is)))
    (case f_need_stretch => (refine' DL.fn_mk KX G ?a ?l ?c ?k; (case a => k_is); (case l => k_is); (case c => k_is); (case k => k_is)))
    (case f_how_many => (refine' DL.fn_mk KX G ?a ?l ?c ?k; (case a => k_is); (case l => k_is); (case c => k_is); (case k => k_is)))
    (case f_nth_rest => (refine' DL.fn_mk KX G ?a ?l ?c ?k; (case a => k_is); (case l => k_is); (case c => k_is); (case k => k_is)))
    (case f_nth_of => (refine' DL.fn_mk KX G ?a ?l ?c ?k; (case a => k_is); (case l => k_is); (case c => k_is); (case k => k_is)))
    (case f_need_index => (refine' DL.fn_mk KX G ?a ?l ?c ?k; (case a => k_is); (case l => k_is); (case c => k_is); (case k => k_is)))
    (case f_number_in => (refine' DL.fn_mk KX G ?a ?l ?c ?k; (case a => k_is); (case l => k_is); (case c => k_is); (case k => k_is)))
    (case f_place_in => (refine' DL.fn_mk KX G ?a ?l ?c ?k; (case a => k_is); (case l => k_is); (case c => k_is); (case k => k_is)))
    (case f_summed => (refine' DL.fn_mk KX G ?a ?l ?c ?k; (case a => k_is); (case l => k_is); (case c => k_is); (case k => k_is)))
    (case f_sum_in => (refine' DL.fn_mk KX G ?a ?l ?c ?k; (case a => k_is); (case l => k_is); (case c => k_is); (case k => k_is)))
    (case f__law_box => (refine' DL.fn_mk KX G ?a ?l ?c ?k; (case a => k_is); (case l => k_is); (case c => k_is); (case k => k_is)))
    (case f__law_take => (refine' DL.fn_mk KX G ?a ?l ?c ?k; (case a => k_is); (case l => k_is); (case c => k_is); (case k => k_is)))
    (case f__law_pick => (refine' DL.fn_mk KX G ?a ?l ?c ?k; (case a => k_is); (case l => k_is); (case c => k_is); (case k => k_is)))
    (case f__law_is => (refine' DL.fn_mk KX G ?a ?l ?c ?k; (case a => k_is); (case l => k_is); (case c => k_is); (case k => k_is)))
    (case f__law_int => (refine' DL.fn_mk KX G ?a ?l ?c ?k; (case a => k_is); (case l => k_is); (case c => k_is); (case k => k_is)))
    (case f__law_has => (refine' DL.fn_mk KX G ?a ?l ?c ?k; (case a => k_is); (case l => k_is); (case c => k_is); (case k => k_is)))
    (case f__law_drawn_lot => (refine' DL.fn_mk KX G ?a ?l ?c ?k; (case a => k_is); (case l => k_is); (case c => k_is); (case k => k_is)))
    (case f__law_other_form => (refine' DL.fn_mk KX G ?a ?l ?c ?k; (case a => k_is); (case l => k_is); (case c => k_is); (case k => k_is)))
    (case f__law_sides => (refine' DL.fn_mk KX G ?a ?l ?c ?k; (case a => k_is); (case l => k_is); (case c => k_is); (case k => k_is)))
    (case f__law_count => (refine' DL.fn_mk KX G ?a ?l ?c ?k; (case a => k_is); (case l => k_is); (case c => k_is); (case k => k_is)))
    (case f__law_sum => (refine' DL.fn_mk KX G ?a ?l ?c ?k; (case a => k_is); (case l => k_is); (case c => k_is); (case k => k_is)))
    (case f__law_wide_number_of => (refine' DL.fn_mk KX G ?a ?l ?c ?k; (case a => k_is); (case l => k_is); (case c => k_is); (case k => k_is)))
    (case f__law_stretch_right => (refine' DL.fn_mk KX G ?a ?l ?c ?k; (case a => k_is); (case l => k_is); (case c => k_is); (case k => k_is)))
    (case f__law_number_right => (refine' DL.fn_mk KX G ?a ?l ?c ?k; (case a => k_is); (case l => k_is); (case c => k_is); (case k => k_is)))
    (case f_law => (refine' DL.fn_mk KX G ?a ?l ?c ?k; (case a => k_is); (case l => k_is); (case c => k_is); (case k => k_is)))
    (case z_abs => (refine' DL.blt_mk KX G ?a; (case a => k_is)))
    (case z_bool => (refine' DL.blt_mk KX G ?a; (case a => k_is)))
    (case z_enumerate => (refine' DL.blt_mk KX G ?a; (case a => k_is)))
    (case z_int => (refine' DL.blt_mk KX G ?a; (case a => k_is)))
    (case z_isinstance => (refine' DL.blt_mk KX G ?a; (case a => k_is)))
    (case z_len => (refine' DL.blt_mk KX G ?a; (case a => k_is)))
    (case z_list => (refine' DL.blt_mk KX G ?a; (case a => k_is)))
    (case z_max => (refine' DL.blt_mk KX G ?a; (case a => k_is)))
    (case z_min => (refine' DL.blt_mk KX G ?a; (case a => k_is)))
    (case z_range => (refine' DL.blt_mk KX G ?a; (case a => k_is)))
    (case z_sorted => (refine' DL.blt_mk KX G ?a; (case a => k_is)))
    (case z_str => (refine' DL.blt_mk KX G ?a; (case a => k_is)))
    (case z_sum => (refine' DL.blt_mk KX G ?a; (case a => k_is)))
    (case z_tuple => (refine' DL.blt_mk KX G ?a; (case a => k_is)))
    (case z_zip => (refine' DL.blt_mk KX G ?a; (case a => k_is)))
    (case c_MOST_BOUND => (refine' DL.con_mk KX G ?a; (case a => k_is)))
    (case c_MOST_INDEX => (refine' DL.con_mk KX G ?a; (case a => k_is)))
    (case c_MOST_MODULUS => (refine' DL.con_mk KX G ?a; (case a => k_is)))
