import PyProof.Rows.All
import Wide.All
import OpenK.AllK
import Wide.FinOn
import HandS.ForMost
import HandS.ForExc
import HandS.Lambda
import HandS.TupAny
import HandS.IsInst
import HandS.Deep
import HandS.Zip
import HandS.FStr
import HandS.RaiseMore
import HandS.Wide
import HandS.ExcInit
import HandS.ExcField
import KE.KLam
import HandS.More
import HandS.EndTab
import KE.KNest
import KE.KNestM
import HandS.Defaults
import HandS.Head0
import HandS.Head1
import HandS.Head2
import HandS.HeadHook1
import HandS.HeadHook2
import HandS.HeadHook3
import HandS.HeadHook4
import HandS.HeadEnd
import HandS.JoinGen
import PySem.Challenge.RW_underheard_k85_lines_there_and_back
set_option Elab.async false
set_option linter.all false
set_option maxRecDepth 100000
set_option maxHeartbeats 4000000
/-! A layer of plain data over the hand layer: values as trees, a def as a function of trees. -/
namespace UH
open PySem PySem.Spec PyProof.Rows L2

/-- plain data -/
inductive D where
  | non | bl (b : Bool) | int (i : Int) | str (x : Str)
  | tup (xs : List D) | lst (xs : List D) | dic (kvs : List (Key × D)) | fn (n : Nat) | obj (n : Nat) | adr (a : Addr)
  deriving Inhabited

/-- what is fixed for a program -/
structure Pr where
  K : PySem.W.Frag
  fa : Nat → Addr
  ca : Nat → Addr
  flds : Nat → List Str
  T : List (Addr × Str)

/-- a text that the machine takes: not too long, its signs in the range -/
def sOk (x : Str) : Prop := x.length ≤ sizeLine ∧ ∀ c ∈ x.cps.toList, c < 1114112
def Av (L : List Addr) (O : Addr → Prop) (a : Addr) : Prop := a ∈ L ∨ O a
def KTup (K : PySem.W.Frag) (a : Addr) (xs : List V) : Prop :=
  ∃ (o : Obj) (its : Array Value) (n : Nat), K.lookup a = some o ∧ o.cls = .type "tuple" ∧ o.data = .seq its n ∧ its.size ≤ sizeLine ∧ Vals xs its.toList

section
variable (P : Pr) (L : List Addr) (O : Addr → Prop) (H : Hp)
def TupAt (a : Addr) (vs : List V) : Prop := vs.length ≤ sizeLine ∧ ((Rd H a (.tup vs) ∧ ¬ Av L O a) ∨ KTup P.K a vs)
def LstAt (a : Addr) (vs : List V) : Prop := vs.length ≤ sizeLine ∧ Rd H a (.lst vs) ∧ ¬ Av L O a
def DicAt (a : Addr) (ws : List (Key × V)) : Prop := ws.length ≤ sizeLine ∧ Rd H a (.dK ws) ∧ ¬ Av L O a
mutual
def Dat : D → V → Prop
  | .non, v => v = .non
  | .bl b, v => v = .bl b
  | .int i, v => v = .int i
  | .str x, v => v = .str x ∧ sOk x
  | .tup ds, v => ∃ a vs, v = .ref a ∧ TupAt P L O H a vs ∧ DatAll ds vs
  | .lst ds, v => ∃ a vs, v = .ref a ∧ LstAt L O H a vs ∧ DatAll ds vs
  | .dic kvs, v => ∃ a ws, v = .ref a ∧ DicAt L O H a ws ∧ DatKvs kvs ws
  | .fn n, v => v = .ref (P.fa n)
  | .obj n, v => ∃ a, L[n]? = some a ∧ v = .ref a
  | .adr a, v => v = .ref a
def DatAll : List D → List V → Prop
  | [], vs => vs = []
  | d :: ds, vs => ∃ v r, vs = v :: r ∧ Dat d v ∧ DatAll ds r
def DatKvs : List (Key × D) → List (Key × V) → Prop
  | [], vs => vs = []
  | (k, d) :: ds, vs => ∃ v r, vs = (k, v) :: r ∧ Dat d v ∧ DatKvs ds r
end
end

section
variable {P : Pr} {L L' : List Addr} {O O' : Addr → Prop} {H H' : Hp}
def NTbl (o : HO) : Prop := ∀ ps, o ≠ .tbl ps
mutual
theorem Dat.mono (hp : L <+: L') (hk : ∀ a o, H a = some o → NTbl o → ¬ Av L O a → H' a = some o ∧ ¬ Av L' O' a) : ∀ (d : D) {v : V}, Dat P L O H d v → Dat P L' O' H' d v
  | .non, _, h => h
  | .bl _, _, h => h
  | .int _, _, h => h
  | .str _, _, h => h
  | .fn _, _, h => h
  | .adr _, _, h => h
  | .obj n, v, ⟨a, e, q⟩ => ⟨a, by
      obtain ⟨t, rfl⟩ := hp
      exact List.getElem?_append_left (List.getElem?_eq_some_iff.mp e).1 ▸ e, q⟩
  | .tup ds, v, ⟨a, vs, e, ⟨z, t⟩, q⟩ => ⟨a, vs, e, ⟨z, by
      rcases t with ⟨r | ⟨o, r⟩, n⟩ | t
      · have := hk a _ r (fun ps z => nomatch z) n; exact .inl ⟨.inl this.1, this.2⟩
      · have := hk a _ r (fun ps z => nomatch z) n; exact .inl ⟨.inr ⟨o, this.1⟩, this.2⟩
      · exact .inr t⟩, DatAll.mono hp hk ds q⟩
  | .lst ds, v, ⟨a, vs, e, ⟨z, r, n⟩, q⟩ => ⟨a, vs, e, ⟨z, by
      rcases r with r | ⟨o, r⟩
      · have := hk a _ r (fun ps z => nomatch z) n; exact ⟨.inl this.1, this.2⟩
      · have := hk a _ r (fun ps z => nomatch z) n; exact ⟨.inr ⟨o, this.1⟩, this.2⟩⟩, DatAll.mono hp hk ds q⟩
  | .dic ds, v, ⟨a, vs, e, ⟨z, r, n⟩, q⟩ => ⟨a, vs, e, ⟨z, by
      rcases r with r | ⟨o, r⟩
      · have := hk a _ r (fun ps z => nomatch z) n; exact ⟨.inl this.1, this.2⟩
      · have := hk a _ r (fun ps z => nomatch z) n; exact ⟨.inr ⟨o, this.1⟩, this.2⟩⟩, DatKvs.mono hp hk ds q⟩
theorem DatAll.mono (hp : L <+: L') (hk : ∀ a o, H a = some o → NTbl o → ¬ Av L O a → H' a = some o ∧ ¬ Av L' O' a) : ∀ (d : List D) {v : List V}, DatAll P L O H d v → DatAll P L' O' H' d v
  | [], _, h => h
  | d :: ds, _, ⟨v, r, e, h1, h2⟩ => ⟨v, r, e, Dat.mono hp hk d h1, DatAll.mono hp hk ds h2⟩
theorem DatKvs.mono (hp : L <+: L') (hk : ∀ a o, H a = some o → NTbl o → ¬ Av L O a → H' a = some o ∧ ¬ Av L' O' a) : ∀ (d : List (Key × D)) {v : List (Key × V)}, DatKvs P L O H d v → DatKvs P L' O' H' d v
  | [], _, h => h
  | (k, d) :: ds, _, ⟨v, r, e, h1, h2⟩ => ⟨v, r, e, Dat.mono hp hk d h1, DatKvs.mono hp hk ds h2⟩
end

theorem DatAll.len : ∀ {ds : List D} {vs : List V}, DatAll P L O H ds vs → ds.length = vs.length
  | [], _, h => by rw [show _ = [] from h]; rfl
  | d :: ds, _, ⟨v, r, e, _, h2⟩ => by rw [e, List.length_cons, List.length_cons, DatAll.len h2]
theorem DatAll.get : ∀ {ds : List D} {vs : List V} (i : Nat) {d : D}, DatAll P L O H ds vs → ds[i]? = some d → ∃ v, vs[i]? = some v ∧ Dat P L O H d v
  | [], _, _, _, _, e => by simp at e
  | d :: ds, _, 0, _, ⟨v, r, e, h1, h2⟩, q => by simp at q; subst q; exact ⟨v, by rw [e]; rfl, h1⟩
  | d :: ds, _, i + 1, _, ⟨v, r, e, h1, h2⟩, q => by
    obtain ⟨w, e1, e2⟩ := DatAll.get i h2 (by simpa using q)
    exact ⟨w, by rw [e]; simpa using e1, e2⟩
theorem DatAll.getV : ∀ {ds : List D} {vs : List V} (i : Nat) {v : V}, DatAll P L O H ds vs → vs[i]? = some v → ∃ d, ds[i]? = some d ∧ Dat P L O H d v
  | [], _, _, _, h, e => by rw [show _ = [] from h] at e; simp at e
  | d :: ds, _, 0, _, ⟨v, r, e, h1, h2⟩, q => by rw [e] at q; simp at q; subst q; exact ⟨d, rfl, h1⟩
  | d :: ds, _, i + 1, _, ⟨v, r, e, h1, h2⟩, q => by
    rw [e] at q
    obtain ⟨w, e1, e2⟩ := DatAll.getV i h2 (by simpa using q)
    exact ⟨w, by simpa using e1, e2⟩
theorem DatAll.nil : DatAll P L O H [] [] := rfl
theorem DatAll.cons {d : D} {ds : List D} {v : V} {vs : List V} (h : Dat P L O H d v) (t : DatAll P L O H ds vs) : DatAll P L O H (d :: ds) (v :: vs) := ⟨v, vs, rfl, h, t⟩
theorem DatAll.append : ∀ {ds es : List D} {vs ws : List V}, DatAll P L O H ds vs → DatAll P L O H es ws → DatAll P L O H (ds ++ es) (vs ++ ws)
  | [], _, _, _, h, t => by rw [show _ = [] from h]; exact t
  | d :: ds, _, _, _, ⟨v, r, e, h1, h2⟩, t => by rw [e]; exact ⟨v, _, rfl, h1, DatAll.append h2 t⟩
theorem DatAll.take : ∀ {ds : List D} {vs : List V} (n : Nat), DatAll P L O H ds vs → DatAll P L O H (ds.take n) (vs.take n)
  | _, _, 0, _ => rfl
  | [], _, n + 1, h => by rw [show _ = [] from h]; rfl
  | d :: ds, _, n + 1, ⟨v, r, e, h1, h2⟩ => by rw [e]; exact ⟨v, _, rfl, h1, DatAll.take n h2⟩
theorem DatAll.drop : ∀ {ds : List D} {vs : List V} (n : Nat), DatAll P L O H ds vs → DatAll P L O H (ds.drop n) (vs.drop n)
  | _, _, 0, h => h
  | [], _, n + 1, h => by rw [show _ = [] from h]; rfl
  | d :: ds, _, n + 1, ⟨v, r, e, h1, h2⟩ => by rw [e]; exact DatAll.drop n h2
theorem DatAll.set : ∀ {ds : List D} {vs : List V} (n : Nat) {d : D} {v : V}, DatAll P L O H ds vs → Dat P L O H d v → DatAll P L O H (ds.set n d) (vs.set n v)
  | [], _, _, _, _, h, _ => by rw [show _ = [] from h]; rfl
  | d :: ds, _, 0, _, _, ⟨v, r, e, h1, h2⟩, q => by rw [e]; exact ⟨_, _, rfl, q, h2⟩
  | d :: ds, _, n + 1, _, _, ⟨v, r, e, h1, h2⟩, q => by rw [e]; exact ⟨_, _, rfl, h1, DatAll.set n h2 q⟩

/-- the heap goes on: L the boxes, all else stays -/
structure Step (L : List Addr) (H : Hp) (L' : List Addr) (H' : Hp) : Prop where
  pre : L <+: L'
  fresh : ∀ a ∈ L', a ∈ L ∨ H a = none
  keep : ∀ a o, H a = some o → a ∉ L → NTbl o → H' a = some o
  live : ∀ a, H a ≠ none → H' a ≠ none
theorem Step.refl : Step L H L H := ⟨List.prefix_refl _, fun _ h => .inl h, fun _ _ e _ _ => e, fun _ h => h⟩
theorem Step.trans {L'' : List Addr} {H'' : Hp} (s : Step L H L' H') (t : Step L' H' L'' H'') : Step L H L'' H'' where
  pre := s.pre.trans t.pre
  fresh := fun a h => (t.fresh a h).elim (s.fresh a) fun n => .inr (by
    cases q : H a with
    | none => rfl
    | some o => exact absurd n (s.live a (by rw [q]; simp)))
  keep := fun a o e n b => t.keep a o (s.keep a o e n b) (fun m => (s.fresh a m).elim n fun z => by rw [z] at e; cases e) b
  live := fun a h => t.live a (s.live a h)
theorem Step.grow (g : Same H H') : Step L H L H' := ⟨List.prefix_refl _, fun _ h => .inl h, fun a o e _ _ => g a o e, fun a h z => by
  cases q : H a with
  | none => exact h q
  | some o => rw [g a o q] at z; cases z⟩
theorem Same.upd {p : Addr} {o : HO} (h : H p = none) : Same H (upd H p o) := fun a u e => by rw [upd_ne (ne_of_none e h)]; exact e
theorem Step.new {p : Addr} {o : HO} (h : H p = none) : Step L H L (upd H p o) := Step.grow (Same.upd h)
theorem Dat.step (st : Step L H L' H') {d : D} {v : V} (h : Dat P L O H d v) : Dat P L' O H' d v :=
  Dat.mono st.pre (fun a o e b n => ⟨st.keep a o e (fun m => n (.inl m)) b, fun m => m.elim (fun m => (st.fresh a m).elim (fun m => n (.inl m)) fun z => by rw [z] at e; cases e) fun m => n (.inr m)⟩) d h
theorem DatAll.step (st : Step L H L' H') {d : List D} {v : List V} (h : DatAll P L O H d v) : DatAll P L' O H' d v :=
  DatAll.mono st.pre (fun a o e b n => ⟨st.keep a o e (fun m => n (.inl m)) b, fun m => m.elim (fun m => (st.fresh a m).elim (fun m => n (.inl m)) fun z => by rw [z] at e; cases e) fun m => n (.inr m)⟩) d h
theorem DatKvs.step (st : Step L H L' H') {d : List (Key × D)} {v : List (Key × V)} (h : DatKvs P L O H d v) : DatKvs P L' O H' d v :=
  DatKvs.mono st.pre (fun a o e b n => ⟨st.keep a o e (fun m => n (.inl m)) b, fun m => m.elim (fun m => (st.fresh a m).elim (fun m => n (.inl m)) fun z => by rw [z] at e; cases e) fun m => n (.inr m)⟩) d h
/-- less is owned -/
theorem Dat.less (h : ∀ a, O' a → O a) {d : D} {v : V} (q : Dat P L O H d v) : Dat P L O' H d v :=
  Dat.mono (List.prefix_refl _) (fun a o e b n => ⟨e, fun m => n (m.imp id (h a))⟩) d q
theorem DatAll.less (h : ∀ a, O' a → O a) {d : List D} {v : List V} (q : DatAll P L O H d v) : DatAll P L O' H d v :=
  DatAll.mono (List.prefix_refl _) (fun a o e b n => ⟨e, fun m => n (m.imp id (h a))⟩) d q
/-- a new thing is owned -/
theorem Dat.more (h : ∀ a, O' a → O a ∨ H a = none) {d : D} {v : V} (q : Dat P L O H d v) : Dat P L O' H d v :=
  Dat.mono (List.prefix_refl _) (fun a o e b n => ⟨e, fun m => m.elim (fun m => n (.inl m)) fun m => (h a m).elim (fun m => n (.inr m)) fun z => by rw [z] at e; cases e⟩) d q
theorem DatAll.more (h : ∀ a, O' a → O a ∨ H a = none) {d : List D} {v : List V} (q : DatAll P L O H d v) : DatAll P L O' H d v :=
  DatAll.mono (List.prefix_refl _) (fun a o e b n => ⟨e, fun m => m.elim (fun m => n (.inl m)) fun m => (h a m).elim (fun m => n (.inr m)) fun z => by rw [z] at e; cases e⟩) d q
/-- an owned thing is changed -/
theorem Dat.wr {p : Addr} {o : HO} (hp : O p) {d : D} {v : V} (q : Dat P L O H d v) : Dat P L O (upd H p o) d v :=
  Dat.mono (List.prefix_refl _) (fun a u e b n => ⟨by rw [upd_ne (fun z : a = p => n (.inr (by rw [z]; exact hp)))]; exact e, n⟩) d q
theorem DatAll.wr {p : Addr} {o : HO} (hp : O p) {d : List D} {v : List V} (q : DatAll P L O H d v) : DatAll P L O (upd H p o) d v :=
  DatAll.mono (List.prefix_refl _) (fun a u e b n => ⟨by rw [upd_ne (fun z : a = p => n (.inr (by rw [z]; exact hp)))]; exact e, n⟩) d q
end
end UH

set_option maxRecDepth 100000
set_option maxHeartbeats 4000000
namespace UH
open PySem PySem.Spec PyProof.Rows L2

/-- a thing with a name of its own that is changed -/
inductive Box where
  | lst (xs : List D)
  | ins (c : Nat) (fs : List (Str × D))
  deriving Inhabited
abbrev Bxs := List Box
/-- a slot of a frame: nothing, a value, a list that this frame alone holds -/
inductive Sl where
  | none | val (d : D) | own (xs : List D)
  deriving Inhabited
abbrev En := List Sl
/-- how a piece of the program ends -/
inductive R (α : Type) where
  | ok (a : α) (s : Bxs) | exc (c : Nat) (as : List D) (s : Bxs) | bad
def R.bind {α β : Type} (r : R α) (f : α → Bxs → R β) : R β := match r with
  | .ok a s => f a s
  | .exc c as s => .exc c as s
  | .bad => .bad
@[simp] theorem R.bind_ok {α β : Type} (a : α) (s : Bxs) (f : α → Bxs → R β) : (R.ok a s).bind f = f a s := rfl
@[simp] theorem R.bind_exc {α β : Type} (c : Nat) (as : List D) (s : Bxs) (f : α → Bxs → R β) : (R.exc c as s).bind f = .exc c as s := rfl
@[simp] theorem R.bind_bad {α β : Type} (f : α → Bxs → R β) : (R.bad).bind f = .bad := rfl
def R.ofO {α : Type} (o : Option α) (s : Bxs) : R α := match o with
  | some a => .ok a s
  | none => .bad
@[simp] theorem R.ofO_some {α : Type} (a : α) (s : Bxs) : R.ofO (some a) s = .ok a s := rfl
@[simp] theorem R.ofO_none {α : Type} (s : Bxs) : R.ofO (none : Option α) s = .bad := rfl

section
variable (P : Pr) (L : List Addr) (O : Addr → Prop) (H : Hp)
def DatFs : List (Str × D) → List (Str × V) → Prop
  | [], vs => vs = []
  | (k, d) :: ds, vs => ∃ v r, vs = (k, v) :: r ∧ Dat P L O H d v ∧ DatFs ds r
def BoxAt : Box → Addr → Prop
  | .lst ds, a => ∃ vs, H a = some (.lst vs) ∧ vs.length ≤ sizeLine ∧ DatAll P L O H ds vs
  | .ins c fs, a => ∃ dx vs, H a = some (.ins (P.ca c) dx vs) ∧ DatFs P L O H fs vs
structure Base (s : Bxs) : Prop where
  len : s.length = L.length
  nd : L.Nodup
  box : ∀ (n : Nat) (b : Box) (a : Addr), s[n]? = some b → L[n]? = some a → BoxAt P L O H b a
  dis : ∀ a ∈ L, ¬ O a
  live : ∀ a, O a → H a ≠ none
  tabs : LamX.Tabs P.T H
/-- a list that the frame holds -/
def OwnAt (a : Addr) (vs : List V) (ds : List D) : Prop := O a ∧ H a = some (.lst vs) ∧ vs.length ≤ sizeLine ∧ DatAll P L O H ds vs
def SlOk (B : Addr → Prop) (o : Option (Option V)) : Sl → Prop
  | .none => True
  | .val d => ∃ v, o = some (some v) ∧ Dat P L O H d v
  | .own ds => ∃ a vs, o = some (some (.ref a)) ∧ ¬ B a ∧ OwnAt P L O H a vs ds
/-- a frame's state: its slots; B: what the callers own -/
structure Rel (B : Addr → Prop) (σ : L2.St) (env : En) (s : Bxs) : Prop where
  base : Base P L O H s
  slot : ∀ (i : Nat) (sl : Sl), env[i]? = some sl → SlOk P L O H B (σ[i]?) sl
  inj : ∀ (i j : Nat) (xs ys : List D) (a : Addr), env[i]? = some (.own xs) → env[j]? = some (.own ys) → σ[i]? = some (some (.ref a)) → σ[j]? = some (some (.ref a)) → i = j
  out : ∀ a, B a → O a
  len : σ.length = env.length
end

section
variable {P : Pr} {L L' : List Addr} {O O' B : Addr → Prop} {H H' : Hp} {s s' : Bxs} {σ : L2.St} {env : En}
theorem Base.av (b : Base P L O H s) {p : Addr} (h : H p = none) : ¬ Av L O p := fun m => m.elim (fun m => by
  obtain ⟨n, hn⟩ := List.getElem?_of_mem m
  have hl : n < s.length := by rw [b.len]; exact (List.getElem?_eq_some_iff.mp hn).1
  have q := b.box n s[n] p (by simp [hl]) hn
  generalize s[n] = x at q
  cases x with
  | lst ds => obtain ⟨vs, e, _⟩ := q; rw [h] at e; cases e
  | ins c fs => obtain ⟨dx, vs, e, _⟩ := q; rw [h] at e; cases e) fun m => b.live p m h
theorem DatFs.step (st : Step L H L' H') : ∀ {ds : List (Str × D)} {vs : List (Str × V)}, DatFs P L O H ds vs → DatFs P L' O H' ds vs
  | [], _, h => h
  | (k, d) :: ds, _, ⟨v, r, e, h1, h2⟩ => ⟨v, r, e, h1.step st, DatFs.step st h2⟩
theorem Tabs.same (t : LamX.Tabs P.T H) (g : Same H H') : LamX.Tabs P.T H' := t.ext g
theorem BoxAt.grow (g : Same H H') {b : Box} {a : Addr} (h : BoxAt P L O H b a) : BoxAt P L O H' b a := by
  cases b with
  | lst ds => obtain ⟨vs, e, z, q⟩ := h; exact ⟨vs, g _ _ e, z, q.step (.grow g)⟩
  | ins c fs => obtain ⟨dx, vs, e, q⟩ := h; exact ⟨dx, vs, g _ _ e, q.step (.grow g)⟩
/-- the heap grows, the boxes stay -/
theorem Base.grow (b : Base P L O H s) (g : Same H H') : Base P L O H' s :=
  ⟨b.len, b.nd, fun n x a e q => (b.box n x a e q).grow g, b.dis, (fun a h z => by
    cases q : H a with
    | none => exact b.live a h q
    | some o => rw [g a o q] at z; cases z), b.tabs.ext g⟩
theorem Base.new (b : Base P L O H s) {p : Addr} {o : HO} (h : H p = none) : Base P L O (upd H p o) s := b.grow (Same.upd h)
theorem OwnAt.step (st : Step L H L' H') (hd : ∀ a ∈ L, ¬ O a) {a : Addr} {vs : List V} {ds : List D} (h : OwnAt P L O H a vs ds) : OwnAt P L' O H' a vs ds :=
  ⟨h.1, st.keep a _ h.2.1 (fun m => hd a m h.1) (fun _ z => nomatch z), h.2.2.1, h.2.2.2.step st⟩
theorem SlOk.step (st : Step L H L' H') (hd : ∀ a ∈ L, ¬ O a) {o : Option (Option V)} {sl : Sl} (h : SlOk P L O H B o sl) : SlOk P L' O H' B o sl := by
  cases sl with
  | none => trivial
  | val d => obtain ⟨v, e, q⟩ := h; exact ⟨v, e, q.step st⟩
  | own ds => obtain ⟨a, vs, e, n, q⟩ := h; exact ⟨a, vs, e, n, q.step st hd⟩
theorem Rel.step (r : Rel P L O H B σ env s) (b : Base P L' O H' s') (st : Step L H L' H') : Rel P L' O H' B σ env s' :=
  ⟨b, fun i sl e => (r.slot i sl e).step st r.base.dis, r.inj, r.out, r.len⟩
theorem Rel.val (r : Rel P L O H B σ env s) {i : Nat} {d : D} (e : env[i]? = some (.val d)) : ∃ v, σ[i]? = some (some v) ∧ Dat P L O H d v := r.slot i _ e

/-- what an exception is wished -/
def ExcW (P : Pr) (L : List Addr) (O : Addr → Prop) (H : Hp) (E : XK) (c : Nat) (as : List D) (s' : Bxs) : Prop :=
  ∀ dx H' L' vs, Base P L' O H' s' → Step L H L' H' → DatAll P L' O H' as vs → H' dx = some (.xd ((P.flds c).zip vs)) → E (.ref (P.ca c)) (some dx) H'
def Post (P : Pr) (L : List Addr) (O : Addr → Prop) (H : Hp) (E : XK) {α : Type} (r : R α) (k : α → Bxs → List Addr → Hp → Prop) : Prop := match r with
  | .ok a s' => ∀ L' H', Base P L' O H' s' → Step L H L' H' → k a s' L' H'
  | .exc c as s' => ExcW P L O H E c as s'
  | .bad => False
theorem ExcW.step {E : XK} {c : Nat} {as : List D} {s' : Bxs} (h : ExcW P L O H E c as s') (st : Step L H L' H') : ExcW P L' O H' E c as s' :=
  fun dx H2 L2 vs b t d e => h dx H2 L2 vs b (st.trans t) d e
theorem Post.mono {E : XK} {α : Type} {r : R α} {k k' : α → Bxs → List Addr → Hp → Prop} (h : Post P L O H E r k)
    (f : ∀ a s' L' H', Base P L' O H' s' → Step L H L' H' → k a s' L' H' → k' a s' L' H') : Post P L O H E r k' := by
  cases r with
  | ok a s' => exact fun L' H' b st => f _ _ _ _ b st (h L' H' b st)
  | exc c as s' => exact h
  | bad => exact h
theorem Post.step {E : XK} {α : Type} {r : R α} {k : α → Bxs → List Addr → Hp → Prop} (h : Post P L O H E r k) (st : Step L H L' H') : Post P L' O H' E r k := by
  cases r with
  | ok a s' => exact fun L2 H2 b t => h L2 H2 b (st.trans t)
  | exc c as s' => exact ExcW.step h st
  | bad => exact h
theorem Post.bind {E : XK} {α β : Type} {r : R α} {f : α → Bxs → R β} {k : β → Bxs → List Addr → Hp → Prop} (h : Post P L O H E (r.bind f) k) :
    Post P L O H E r fun a s' L' H' => Post P L' O H' E (f a s') k := by
  cases r with
  | ok a s' =>
    intro L' H' b st
    exact Post.step (show Post P L O H E (f a s') k from h) st
  | exc c as s' => exact h
  | bad => exact h
theorem Post.ofO {E : XK} {α : Type} {o : Option α} {s0 : Bxs} {k : α → Bxs → List Addr → Hp → Prop} (h : Post P L O H E (R.ofO o s0) k) : ∃ a, o = some a ∧ ∀ L' H', Base P L' O H' s0 → Step L H L' H' → k a s0 L' H' := by
  cases o with
  | none => exact False.elim h
  | some a => exact ⟨a, rfl, h⟩
end

/-- one more thing is owned -/
abbrev Ow (O : Addr → Prop) (p : Addr) : Addr → Prop := fun a => O a ∨ a = p
section
variable {P : Pr} {L L' : List Addr} {O O' B : Addr → Prop} {H H' : Hp} {s s' : Bxs} {σ : L2.St} {env : En} {E : XK}
theorem Base.less {L : List Addr} {O O' : Addr → Prop} {H : Hp} {s : Bxs} (b : Base P L O H s) (h : ∀ a, O' a → O a) : Base P L O' H s :=
  ⟨b.len, b.nd, fun n x a e q => by
    have z := b.box n x a e q
    cases x with
    | lst ds => obtain ⟨vs, h1, h2, h3⟩ := z; exact ⟨vs, h1, h2, h3.less h⟩
    | ins c fs =>
      obtain ⟨dx, vs, h1, h3⟩ := z
      refine ⟨dx, vs, h1, ?_⟩
      clear h1 e
      induction fs generalizing vs with
      | nil => exact h3
      | cons p r ih =>
        obtain ⟨k, d⟩ := p
        obtain ⟨v, w, e1, e2, e3⟩ := h3
        exact ⟨v, w, e1, e2.less h, ih _ e3⟩, fun a m o => b.dis a m (h a o), fun a o => b.live a (h a o), b.tabs⟩
theorem Post.own {α : Type} {r : R α} {k : α → Bxs → List Addr → Hp → Prop} (h : Post P L O H E r k) (ho : ∀ a, O a → O' a) : Post P L O' H E r k := by
  cases r with
  | ok a s' => exact fun L' H' b st => h L' H' (b.less ho) st
  | exc c as s' => exact fun dx H' L' vs b t d e => h dx H' L' vs (b.less ho) t (d.less ho) e
  | bad => exact h
theorem DatFs.more (h : ∀ a, O' a → O a ∨ H a = none) : ∀ {ds : List (Str × D)} {vs : List (Str × V)}, DatFs P L O H ds vs → DatFs P L O' H ds vs
  | [], _, q => q
  | (k, d) :: ds, _, ⟨v, r, e, h1, h2⟩ => ⟨v, r, e, h1.more h, DatFs.more h h2⟩
theorem BoxAt.more (h : ∀ a, O' a → O a ∨ H a = none) {b : Box} {a : Addr} (q : BoxAt P L O H b a) : BoxAt P L O' H b a := by
  cases b with
  | lst ds => obtain ⟨vs, e, z, r⟩ := q; exact ⟨vs, e, z, r.more h⟩
  | ins c fs => obtain ⟨dx, vs, e, r⟩ := q; exact ⟨dx, vs, e, r.more h⟩
theorem ow_new {p : Addr} (hp : H p = none) : ∀ a, Ow O p a → O a ∨ H a = none := fun a h => h.imp id fun e => by rw [e]; exact hp
/-- a new list that is owned -/
theorem Base.newOwn (b : Base P L O H s) {p : Addr} {o : HO} (hp : H p = none) : Base P L (Ow O p) (upd H p o) s where
  len := b.len
  nd := b.nd
  box := fun n x a e q => ((b.box n x a e q).more (ow_new hp)).grow (Same.upd hp)
  dis := fun a m h => h.elim (b.dis a m) fun z => b.av hp (.inl (z ▸ m))
  live := fun a h => h.elim (fun h z => by
    have : a ≠ p := fun e => b.live a h (e ▸ hp)
    rw [upd_ne this] at z
    exact b.live a h z) fun z => by rw [z, upd_same]; simp
  tabs := b.tabs.ext (Same.upd hp)
end
/-! ### readings -/
abbrev ME := En → Bxs → R D
abbrev MT := En → Bxs → R Bool
abbrev MA := En → Bxs → R (List D)
/-- a value whose list may be owned -/
def WDat (P : Pr) (L : List Addr) (O : Addr → Prop) (H : Hp) : D → V → Prop
  | .lst ds, v => ∃ a vs, v = .ref a ∧ vs.length ≤ sizeLine ∧ Rd H a (.lst vs) ∧ a ∉ L ∧ DatAll P L O H ds vs
  | d, v => Dat P L O H d v
section
variable (P : Pr) (E : XK)
/-- an expression's value is plain data -/
def tE (m : ME) : TE := fun σ H Q => ∃ L O B env s, Rel P L O H B σ env s ∧ Post P L O H E (m env s) fun d _ L' H' => ∀ v, Dat P L' O H' d v → Q v H'
/-- .. whose list may be owned -/
def tW (m : ME) : TE := fun σ H Q => ∃ L O B env s, Rel P L O H B σ env s ∧ Post P L O H E (m env s) fun d _ L' H' => ∀ v, WDat P L' O H' d v → Q v H'
/-- .. a new list: at p, where nothing stood -/
def NK (P : Pr) (O : Addr → Prop) (H₀ : Hp) (Q : VK) (ds : List D) (s' : Bxs) (L' : List Addr) (H' : Hp) : Prop :=
  ∀ p vs, Base P L' (Ow O p) H' s' → H₀ p = none → p ∉ L' → ¬ O p → H' p = some (.lst vs) → vs.length ≤ sizeLine → DatAll P L' (Ow O p) H' ds vs → Q (.ref p) H'
def tN (m : MA) : TE := fun σ H Q => ∃ L O B env s, Rel P L O H B σ env s ∧ Post P L O H E (m env s) fun ds s' L' H' => NK P O H Q ds s' L' H'
def tT (m : MT) : TT := fun σ H Q => ∃ L O B env s, Rel P L O H B σ env s ∧ Post P L O H E (m env s) fun b _ _ H' => Q b H'
/-- arguments: the w-th may be owned lists -/
def tA (m : MA) : TA := fun σ H Q => ∃ L O B env s, Rel P L O H B σ env s ∧ Post P L O H E (m env s) fun ds _ L' H' => ∀ vs, DatAll P L' O H' ds vs → Q vs H'
def WDatAll (L : List Addr) (O : Addr → Prop) (H : Hp) : List D → List V → Prop
  | [], vs => vs = []
  | d :: ds, vs => ∃ v r, vs = v :: r ∧ WDat P L O H d v ∧ WDatAll L O H ds r
def tAW (m : MA) : TA := fun σ H Q => ∃ L O B env s, Rel P L O H B σ env s ∧ Post P L O H E (m env s) fun ds _ L' H' => ∀ vs, WDatAll P L' O H' ds vs → Q vs H'
end
theorem Step.none {L L' : List Addr} {H H' : Hp} (t : Step L H L' H') {p : Addr} (h : H' p = Option.none) : H p = Option.none := by
  cases q : H p with
  | none => rfl
  | some o => exact absurd h (t.live p (by rw [q]; simp))
theorem nk_new {P : Pr} {L L1 : List Addr} {O : Addr → Prop} {H H1 : Hp} {s : Bxs} {Q : VK} {q : Addr} {vs : List V} {ds : List D} (t : Step L H L1 H1) (b : Base P L1 O H1 s) (hq : H1 q = none) (hz : vs.length ≤ sizeLine) (hd : DatAll P L1 O H1 ds vs)
    (k : NK P O H Q ds s L1 (upd H1 q (.lst vs))) : Q (.ref q) (upd H1 q (.lst vs)) :=
  k q vs (b.newOwn hq) (t.none hq) (fun m => b.av hq (.inl m)) (fun m => b.av hq (.inr m)) upd_same hz
    ((hd.more (O' := fun a => O a ∨ a = q) fun a h => h.imp id fun e => by rw [e]; exact hq).step (.new hq))
end UH

set_option maxRecDepth 100000
set_option maxHeartbeats 4000000
namespace UH
open PySem PySem.Spec PyProof.Rows L2

/-! ### weak data -/
section
variable {P : Pr} {L L' : List Addr} {O O' B : Addr → Prop} {H H' : Hp} {s s' : Bxs} {σ : L2.St} {env : En} {E : XK}
theorem Dat.weak {d : D} {v : V} (h : Dat P L O H d v) : WDat P L O H d v := by
  cases d with
  | lst ds =>
    obtain ⟨a, vs, e, ⟨z, q, n⟩, r⟩ := h
    exact ⟨a, vs, e, z, q, fun m => n (.inl m), r⟩
  | _ => exact h
theorem WDat.step (st : Step L H L' H') {d : D} {v : V} (h : WDat P L O H d v) : WDat P L' O H' d v := by
  cases d with
  | lst ds =>
    obtain ⟨a, vs, e, z, q, n, r⟩ := h
    refine ⟨a, vs, e, z, ?_, ?_, r.step st⟩
    · rcases q with q | ⟨o, q⟩
      · exact .inl (st.keep a _ q n fun _ z => nomatch z)
      · exact .inr ⟨o, st.keep a _ q n fun _ z => nomatch z⟩
    · rcases q with q | ⟨o, q⟩
      · exact fun m => (st.fresh a m).elim n fun z => by rw [z] at q; cases q
      · exact fun m => (st.fresh a m).elim n fun z => by rw [z] at q; cases q
  | _ => exact Dat.step st h
theorem WDat.rd {ds : List D} {v : V} (h : WDat P L O H (.lst ds) v) : ∃ a vs, v = .ref a ∧ Rd H a (.lst vs) ∧ vs.length ≤ sizeLine ∧ DatAll P L O H ds vs := by
  obtain ⟨a, vs, e, z, q, n, r⟩ := h
  exact ⟨a, vs, e, q, z, r⟩
theorem WDat.sql {ds : List D} {v : V} (h : WDat P L O H (.lst ds) v) : ∃ a vs, v = .ref a ∧ SqL P.K H a vs ∧ vs.length ≤ sizeLine ∧ DatAll P L O H ds vs := by
  obtain ⟨a, vs, e, z, q, n, r⟩ := h
  exact ⟨a, vs, e, .inl q, z, r⟩
theorem Dat.sqt {ds : List D} {v : V} (h : Dat P L O H (.tup ds) v) : ∃ a vs, v = .ref a ∧ SqT P.K H a vs ∧ vs.length ≤ sizeLine ∧ DatAll P L O H ds vs := by
  obtain ⟨a, vs, e, ⟨z, q⟩, r⟩ := h
  exact ⟨a, vs, e, q.elim (fun q => .inl q.1) .inr, z, r⟩
theorem Dat.newTup (b : Base P L O H s) {p : Addr} (hp : H p = none) {ds : List D} {vs : List V} (z : vs.length ≤ sizeLine) (h : DatAll P L O H ds vs) : Dat P L O (upd H p (.tup vs)) (.tup ds) (.ref p) :=
  ⟨p, vs, rfl, ⟨z, .inl ⟨.inl upd_same, b.av hp⟩⟩, h.step (.new hp)⟩
theorem Dat.newLst (b : Base P L O H s) {p : Addr} (hp : H p = none) {ds : List D} {vs : List V} (z : vs.length ≤ sizeLine) (h : DatAll P L O H ds vs) : Dat P L O (upd H p (.lst vs)) (.lst ds) (.ref p) :=
  ⟨p, vs, rfl, ⟨z, .inl upd_same, b.av hp⟩, h.step (.new hp)⟩
theorem DatAll.strs : ∀ {xs : List Str} {vs : List V}, DatAll P L O H (xs.map D.str) vs → vs = xs.map V.str ∧ ∀ x ∈ xs, sOk x
  | [], _, h => ⟨by rw [show _ = [] from h]; rfl, fun _ h => nomatch h⟩
  | x :: xs, _, ⟨v, r, e, h1, h2⟩ => by
    obtain ⟨e2, q⟩ := DatAll.strs h2
    refine ⟨by rw [e, h1.1, e2]; rfl, fun y hy => ?_⟩
    rcases List.mem_cons.mp hy with rfl | hy
    · exact h1.2
    · exact q y hy
theorem DatAll.ofStrs : ∀ {xs : List Str}, (∀ x ∈ xs, sOk x) → DatAll P L O H (xs.map D.str) (xs.map V.str)
  | [], _ => rfl
  | x :: xs, h => ⟨_, _, rfl, ⟨rfl, h x List.mem_cons_self⟩, DatAll.ofStrs fun y hy => h y (List.mem_cons_of_mem _ hy)⟩
theorem DatAll.bls : ∀ {bs : List Bool} {vs : List V}, DatAll P L O H (bs.map D.bl) vs → vs = bs.map V.bl
  | [], _, h => by rw [show _ = [] from h]; rfl
  | x :: xs, _, ⟨v, r, e, h1, h2⟩ => by rw [e, show v = _ from h1, DatAll.bls h2]; rfl
end

/-! ### changing a reading -/
section
variable {X : Cx} {P : Pr} {E : XK}
theorem _root_.L2.PE.imp {e : Expr} {t t' : TE} (h : PE X e t) (f : ∀ σ H Q, t' σ H Q → t σ H Q) : PE X e t' := ⟨fun pins s σ H Q I q => h.run pins s σ H Q I (f σ H Q q)⟩
theorem _root_.L2.PT.imp {e : Expr} {t t' : TT} (h : PT X e t) (f : ∀ σ H Q, t' σ H Q → t σ H Q) : PT X e t' := ⟨fun pins s σ H Q I q => h.run pins s σ H Q I (f σ H Q q)⟩
theorem _root_.L2.PW.imp {e : Expr} {t t' : TT} (h : PW X e t) (f : ∀ σ H Q, t' σ H Q → t σ H Q) : PW X e t' := ⟨fun w pins s σ H Q I q => h.run w pins s σ H Q I (f σ H Q q)⟩
theorem _root_.L2.PA.imp {e : List Expr} {t t' : TA} (h : PA X e t) (f : ∀ σ H Q, t' σ H Q → t σ H Q) : PA X e t' := ⟨fun p pins s σ H Q I q => h.run p pins s σ H Q I (f σ H Q q)⟩
theorem _root_.L2.PS.imp {e : Stmt} {t t' : TS} (h : PS X e t) (f : ∀ D σ H, t' D σ H → t D σ H) : PS X e t' := ⟨fun pins s σ H D I q => h.run pins s σ H D I (f D σ H q)⟩
theorem _root_.L2.PSs.imp {e : List Stmt} {t t' : TS} (h : PSs X e t) (f : ∀ D σ H, t' D σ H → t D σ H) : PSs X e t' := ⟨fun pins s σ H D I q => h.run pins s σ H D I (f D σ H q)⟩
theorem _root_.L2.PI.imp {tg e : Expr} {t t' : TI} (h : PI X tg e t) (f : ∀ σ H R, t' σ H R → t σ H R) : PI X tg e t' := ⟨fun pins s σ H R I q => h.run pins s σ H R I (f σ H R q)⟩

/-! ### names, constants -/
def mVar (i : Nat) : ME := fun env s => match env[i]? with
  | some (.val d) => .ok d s
  | _ => .bad
def mVarW (i : Nat) : ME := fun env s => match env[i]? with
  | some (.val d) => .ok d s
  | some (.own ds) => .ok (.lst ds) s
  | _ => .bad
def mC (d : D) : ME := fun _ s => .ok d s
theorem w_of {e : Expr} {m : ME} (h : PE X e (tE P E m)) : PE X e (tW P E m) := h.imp fun σ H Q ⟨L, O, B, env, s, r, p⟩ => ⟨L, O, B, env, s, r, p.mono fun _ _ _ _ _ _ k v q => k v q.weak⟩
theorem e_var (i : Nat) {x : Str} {pos : Pos} (h : PE X (.Name x pos) (tVar i)) : PE X (.Name x pos) (tE P E (mVar i)) := h.imp fun σ H Q ⟨L, O, B, env, s, r, p⟩ => by
  unfold mVar at p
  split at p
  · rename_i d e
    obtain ⟨v, h1, h2⟩ := r.val e
    exact ⟨v, h1, p L H r.base .refl v h2⟩
  · exact p.elim
theorem w_var (i : Nat) {x : Str} {pos : Pos} (h : PE X (.Name x pos) (tVar i)) : PE X (.Name x pos) (tW P E (mVarW i)) := h.imp fun σ H Q ⟨L, O, B, env, s, r, p⟩ => by
  unfold mVarW at p
  split at p
  · rename_i d e
    obtain ⟨v, h1, h2⟩ := r.val e
    exact ⟨v, h1, p L H r.base .refl v h2.weak⟩
  · rename_i ds e
    obtain ⟨a, vs, h1, h2, ho, hh, hz, hd⟩ := r.slot i _ e
    exact ⟨_, h1, p L H r.base .refl _ ⟨a, vs, rfl, hz, .inl hh, fun m => r.base.dis a m ho, hd⟩⟩
  · exact p.elim
theorem e_c {e : Expr} {v : V} {d : D} (h : PE X e (tC v)) (hd : ∀ L O H, Dat P L O H d v) : PE X e (tE P E (mC d)) := h.imp fun σ H Q ⟨L, O, B, env, s, r, p⟩ => p L H r.base .refl v (hd L O H)
theorem e_int {i j pos} : PE X (.Constant (.int i) j pos) (tE P E (mC (.int i))) := e_c pe_int fun _ _ _ => rfl
theorem e_bl {b j pos} : PE X (.Constant (.bool b) j pos) (tE P E (mC (.bl b))) := e_c pe_bl fun _ _ _ => rfl
theorem e_non {j pos} : PE X (.Constant .none j pos) (tE P E (mC .non)) := e_c pe_non fun _ _ _ => rfl
theorem e_str {x j pos} (h : (decide (x.length ≤ sizeLine) && x.cps.toList.all fun c => decide (c < 1114112)) = true := by decide +kernel) : PE X (.Constant (.str x) j pos) (tE P E (mC (.str x))) := e_c pe_str fun _ _ _ => ⟨rfl, by
  rw [Bool.and_eq_true] at h
  exact ⟨of_decide_eq_true h.1, fun c hc => of_decide_eq_true (List.all_eq_true.mp h.2 c hc)⟩⟩
/-- a module's constant -/
theorem e_glob {x : Str} {v : V} {d : D} {u : Value} {pos : Pos} (hg : Gl X x) (hm : X.mg x = some u) (r : RelV v u) (hd : ∀ L O H, Dat P L O H d v) (hdb : (x == ("__debug__" : Str)) = false := by decide) : PE X (.Name x pos) (tE P E (mC d)) :=
  e_c (pe_glob hg hm r hdb) hd

/-! ### operators by values -/
def m1 (f : D → Option D) (a : ME) : ME := fun env s => (a env s).bind fun x s => R.ofO (f x) s
def m2 (f : D → D → Option D) (a b : ME) : ME := fun env s => (a env s).bind fun x s => (b env s).bind fun y s => R.ofO (f x y) s
/-- by values: data in, data out, nothing changed -/
def V2 (P : Pr) (r : R2) (f : D → D → Option D) : Prop := ∀ {L : List Addr} {O : Addr → Prop} {H : Hp} {s : Bxs} {x y d : D} {v w : V} {Q : VK}, Base P L O H s → WDat P L O H x v → WDat P L O H y w → f x y = some d →
  (∀ u H', Same H H' → Dat P L O H' d u → Q u H') → r v w H Q
def V1 (P : Pr) (r : V → Hp → VK → Prop) (f : D → Option D) : Prop := ∀ {L : List Addr} {O : Addr → Prop} {H : Hp} {s : Bxs} {x d : D} {v : V} {Q : VK}, Base P L O H s → WDat P L O H x v → f x = some d →
  (∀ u H', Same H H' → Dat P L O H' d u → Q u H') → r v H Q
theorem tOp_of {r : R2} {f : D → D → Option D} {ma mb : ME} (hv : V2 P r f) {σ : L2.St} {H : Hp} {Q : VK} (h : tE P E (m2 f ma mb) σ H Q) : tOp r (tW P E ma) (tW P E mb) σ H Q := by
  obtain ⟨L, O, B, env, s, rel, p⟩ := h
  refine ⟨L, O, B, env, s, rel, (Post.bind p).mono fun x s1 L1 H1 b1 t1 p1 v hv1 => ?_⟩
  refine ⟨L1, O, B, env, s1, rel.step b1 t1, (Post.bind p1).mono fun y s2 L2 H2 b2 t2 p2 w hw => ?_⟩
  obtain ⟨d, e, k⟩ := Post.ofO p2
  exact hv b2 (hv1.step t2) hw e fun u H' g q => k L2 H' (b2.grow g) (.grow g) u q
theorem e_op {a b : Expr} {op : Operator} {r : R2} {f : D → D → Option D} {ma mb : ME} {pos : Pos} (ho : OpR X (binaryOp op) r) (hv : V2 P r f) (ha : PE X a (tW P E ma)) (hb : PE X b (tW P E mb)) : PE X (.BinOp a op b pos) (tE P E (m2 f ma mb)) :=
  (pe_op ho ha hb).imp fun _ _ _ h => tOp_of hv h
theorem e_cmp {a b : Expr} {op : CmpOp} {r : R2} {f : D → D → Option D} {ma mb : ME} {pos : Pos} (ho : OpR X (compareOp op) r) (hv : V2 P r f) (ha : PE X a (tW P E ma)) (hb : PE X b (tW P E mb)) (hm : behindInMarks op b = false) : PE X (.Compare a [op] [b] pos) (tE P E (m2 f ma mb)) :=
  (pe_cmpR ho ha hb hm).imp fun _ _ _ h => tOp_of hv h
theorem e_un {a : Expr} {op : UnaryOp} {r : V → Hp → VK → Prop} {f : D → Option D} {ma : ME} {pos : Pos} (ho : UnR X (unaryOp op) r) (hv : V1 P r f) (ha : PE X a (tW P E ma)) : PE X (.UnaryOp op a pos) (tE P E (m1 f ma)) :=
  (pe_un ho ha).imp fun σ H Q ⟨L, O, B, env, s, rel, p⟩ => ⟨L, O, B, env, s, rel, (Post.bind p).mono fun x s1 L1 H1 b1 t1 p1 v hv1 => by
    obtain ⟨d, e, k⟩ := Post.ofO p1
    exact hv b1 hv1 e fun u H' g q => k L1 H' (b1.grow g) (.grow g) u q⟩

/-! ### tests -/
def asB : D → Option Bool
  | .bl b => some b
  | _ => none
def mtE (m : ME) : MT := fun env s => (m env s).bind fun d s => R.ofO (asB d) s
def mtNot (m : MT) : MT := fun env s => (m env s).bind fun b s => .ok (!b) s
def mtAnd (a b : MT) : MT := fun env s => (a env s).bind fun x s => if x = true then b env s else .ok false s
def mtOr (a b : MT) : MT := fun env s => (a env s).bind fun x s => if x = true then .ok true s else b env s
def mIf (c : MT) (a b : ME) : ME := fun env s => (c env s).bind fun x s => if x = true then a env s else b env s
/-- a test as a value -/
def mB (m : MT) : ME := fun env s => (m env s).bind fun b s => .ok (.bl b) s
theorem asB_dat {L : List Addr} {O : Addr → Prop} {H : Hp} {d : D} {v : V} {b : Bool} (h : WDat P L O H d v) (e : asB d = some b) : v = .bl b := by
  cases d <;> simp [asB] at e
  subst e; exact h
theorem tTest_of {t : TE} {m : ME} {σ : L2.St} {H : Hp} {Q : Bool → Hp → Prop} (ht : ∀ Q', tE P E m σ H Q' → t σ H Q') (h : tT P E (mtE m) σ H Q) : tTest t σ H Q := by
  obtain ⟨L, O, B, env, s, rel, p⟩ := h
  refine ht _ ⟨L, O, B, env, s, rel, (Post.bind p).mono fun x s1 L1 H1 b1 t1 p1 v hv1 => ?_⟩
  obtain ⟨b, e, k⟩ := Post.ofO p1
  exact ⟨b, asB_dat hv1.weak e, k L1 H1 b1 .refl⟩
theorem t_val {e : Expr} {m : ME} (h : PE X e (tE P E m)) (he : ∀ whole, isTrue e X.env whole = (do let v ← whole; standAt e.pos; holding [v] (truthy v)) := by intro _; rfl) : PT X e (tT P E (mtE m)) :=
  (pt_val h he).imp fun _ _ _ q => tTest_of (fun _ z => z) q
theorem t_cmp {a b : Expr} {op : CmpOp} {r : R2} {f : D → D → Option D} {ma mb : ME} {pos : Pos} (ho : OpR X (compareOp op) r) (hv : V2 P r f) (ha : PE X a (tW P E ma)) (hb : PE X b (tW P E mb)) (hm : behindInMarks op b = false) : PT X (.Compare a [op] [b] pos) (tT P E (mtE (m2 f ma mb))) :=
  (pt_cmpR ho ha hb hm).imp fun _ _ _ h => tTest_of (fun _ z => tOp_of hv z) h
theorem t_not {a : Expr} {m : MT} {pos : Pos} (h : PT X a (tT P E m)) : PT X (.UnaryOp .Not a pos) (tT P E (mtNot m)) :=
  (pt_not h).imp fun σ H Q ⟨L, O, B, env, s, rel, p⟩ => ⟨L, O, B, env, s, rel, (Post.bind p).mono fun x s1 L1 H1 b1 t1 p1 => p1 L1 H1 b1 .refl⟩
theorem w_and1 {a : Expr} {m : MT} {pos : Pos} (h : PT X a (tT P E m)) : PW X (.BoolOp .And [a] pos) (tT P E m) := pw_and1 h
theorem w_or1 {a : Expr} {m : MT} {pos : Pos} (h : PT X a (tT P E m)) : PW X (.BoolOp .Or [a] pos) (tT P E m) := pw_or1 h
theorem w_and {a b : Expr} {rest : List Expr} {m n : MT} {pos : Pos} (h : PT X a (tT P E m)) (h2 : PW X (.BoolOp .And (b :: rest) pos) (tT P E n)) : PW X (.BoolOp .And (a :: b :: rest) pos) (tT P E (mtAnd m n)) :=
  (pw_and h h2).imp fun σ H Q ⟨L, O, B, env, s, rel, p⟩ => ⟨L, O, B, env, s, rel, (Post.bind p).mono fun x s1 L1 H1 b1 t1 p1 => by
    cases x with
    | true => exact iteT ⟨L1, O, B, env, s1, rel.step b1 t1, p1⟩
    | false => exact iteF (p1 L1 H1 b1 .refl)⟩
theorem w_or {a b : Expr} {rest : List Expr} {m n : MT} {pos : Pos} (h : PT X a (tT P E m)) (h2 : PW X (.BoolOp .Or (b :: rest) pos) (tT P E n)) : PW X (.BoolOp .Or (a :: b :: rest) pos) (tT P E (mtOr m n)) :=
  (pw_or h h2).imp fun σ H Q ⟨L, O, B, env, s, rel, p⟩ => ⟨L, O, B, env, s, rel, (Post.bind p).mono fun x s1 L1 H1 b1 t1 p1 => by
    cases x with
    | true => exact iteT (p1 L1 H1 b1 .refl)
    | false => exact iteF ⟨L1, O, B, env, s1, rel.step b1 t1, p1⟩⟩
theorem e_if {c a b : Expr} {mc : MT} {ma mb : ME} {pos : Pos} (hc : PT X c (tT P E mc)) (ha : PE X a (tE P E ma)) (hb : PE X b (tE P E mb)) : PE X (.IfExp c a b pos) (tE P E (mIf mc ma mb)) :=
  (pe_ifExp hc ha hb).imp fun σ H Q ⟨L, O, B, env, s, rel, p⟩ => ⟨L, O, B, env, s, rel, (Post.bind p).mono fun x s1 L1 H1 b1 t1 p1 => by
    cases x with
    | true => exact iteT ⟨L1, O, B, env, s1, rel.step b1 t1, p1⟩
    | false => exact iteF ⟨L1, O, B, env, s1, rel.step b1 t1, p1⟩⟩
/-- and, or, not as values (of truth values) -/
def mAnd (a b : ME) : ME := fun env s => (a env s).bind fun x s => (R.ofO (asB x) s).bind fun k s => if k = true then b env s else .ok (.bl false) s
def mOr (a b : ME) : ME := fun env s => (a env s).bind fun x s => (R.ofO (asB x) s).bind fun k s => if k = true then .ok (.bl true) s else b env s
def mNot (a : ME) : ME := fun env s => (a env s).bind fun x s => (R.ofO (asB x) s).bind fun k s => .ok (.bl (!k)) s
theorem e_one {a : Expr} {op} {m : ME} {pos : Pos} (h : PE X a (tE P E m)) : PE X (.BoolOp op [a] pos) (tE P E m) := pe_one h
theorem e_and {a b : Expr} {rest : List Expr} {m n : ME} {pos : Pos} (h : PE X a (tE P E m)) (h2 : PE X (.BoolOp .And (b :: rest) pos) (tE P E n)) : PE X (.BoolOp .And (a :: b :: rest) pos) (tE P E (mAnd m n)) :=
  (pe_and h h2).imp fun σ H Q ⟨L, O, B, env, s, rel, p⟩ => ⟨L, O, B, env, s, rel, (Post.bind p).mono fun x s1 L1 H1 b1 t1 p1 v hv => by
    obtain ⟨k, e, p1⟩ := Post.ofO (Post.bind p1)
    refine ⟨k, asB_dat hv.weak e, ?_⟩
    cases k with
    | true => exact iteT ⟨L1, O, B, env, s1, rel.step b1 t1, p1 L1 H1 b1 .refl⟩
    | false => exact iteF (p1 L1 H1 b1 .refl L1 H1 b1 .refl _ rfl)⟩
theorem e_or {a b : Expr} {rest : List Expr} {m n : ME} {pos : Pos} (h : PE X a (tE P E m)) (h2 : PE X (.BoolOp .Or (b :: rest) pos) (tE P E n)) : PE X (.BoolOp .Or (a :: b :: rest) pos) (tE P E (mOr m n)) :=
  (pe_or h h2).imp fun σ H Q ⟨L, O, B, env, s, rel, p⟩ => ⟨L, O, B, env, s, rel, (Post.bind p).mono fun x s1 L1 H1 b1 t1 p1 v hv => by
    obtain ⟨k, e, p1⟩ := Post.ofO (Post.bind p1)
    refine ⟨k, asB_dat hv.weak e, ?_⟩
    cases k with
    | true => exact iteT (p1 L1 H1 b1 .refl L1 H1 b1 .refl _ rfl)
    | false => exact iteF ⟨L1, O, B, env, s1, rel.step b1 t1, p1 L1 H1 b1 .refl⟩⟩
theorem e_not {a : Expr} {m : ME} {pos : Pos} (h : PE X a (tE P E m)) : PE X (.UnaryOp .Not a pos) (tE P E (mNot m)) :=
  (pe_not h).imp fun σ H Q ⟨L, O, B, env, s, rel, p⟩ => ⟨L, O, B, env, s, rel, (Post.bind p).mono fun x s1 L1 H1 b1 t1 p1 v hv => by
    obtain ⟨k, e, p1⟩ := Post.ofO (Post.bind p1)
    exact ⟨k, asB_dat hv.weak e, p1 L1 H1 b1 .refl L1 H1 b1 .refl _ rfl⟩⟩

/-! ### argument lists, displays -/
def maNil : MA := fun _ s => .ok [] s
def maCons (a : ME) (r : MA) : MA := fun env s => (a env s).bind fun x s => (r env s).bind fun xs s => .ok (x :: xs) s
theorem a_nil : PA X [] (tA P E maNil) := pa_nil.imp fun σ H Q ⟨L, O, B, env, s, rel, p⟩ => p L H rel.base .refl [] rfl
theorem a_cons {e : Expr} {es : List Expr} {ma : ME} {mr : MA} (ha : PE X e (tE P E ma)) (hr : PA X es (tA P E mr)) (hs : starEach (e :: es) X.env = (false, eval e X.env) :: starEach es X.env := by rfl) : PA X (e :: es) (tA P E (maCons ma mr)) :=
  (pa_cons ha hr hs).imp fun σ H Q ⟨L, O, B, env, s, rel, p⟩ => ⟨L, O, B, env, s, rel, (Post.bind p).mono fun x s1 L1 H1 b1 t1 p1 v hv => ⟨L1, O, B, env, s1, rel.step b1 t1, (Post.bind p1).mono fun xs s2 L2 H2 b2 t2 p2 vs hvs =>
    p2 L2 H2 b2 .refl (v :: vs) (.cons (hv.step t2) hvs)⟩⟩
theorem aw_nil : PA X [] (tAW P E maNil) := pa_nil.imp fun σ H Q ⟨L, O, B, env, s, rel, p⟩ => p L H rel.base .refl [] rfl
theorem aw_cons {e : Expr} {es : List Expr} {ma : ME} {mr : MA} (ha : PE X e (tW P E ma)) (hr : PA X es (tAW P E mr)) (hs : starEach (e :: es) X.env = (false, eval e X.env) :: starEach es X.env := by rfl) : PA X (e :: es) (tAW P E (maCons ma mr)) :=
  (pa_cons ha hr hs).imp fun σ H Q ⟨L, O, B, env, s, rel, p⟩ => ⟨L, O, B, env, s, rel, (Post.bind p).mono fun x s1 L1 H1 b1 t1 p1 v hv => ⟨L1, O, B, env, s1, rel.step b1 t1, (Post.bind p1).mono fun xs s2 L2 H2 b2 t2 p2 vs hvs =>
    p2 L2 H2 b2 .refl (v :: vs) ⟨v, vs, rfl, hv.step t2, hvs⟩⟩⟩
def mTup (m : MA) : ME := fun env s => (m env s).bind fun xs s => if xs.length ≤ 1000 then .ok (.tup xs) s else .bad
def mLst (m : MA) : MA := fun env s => (m env s).bind fun xs s => if xs.length ≤ 1000 then .ok xs s else .bad
/-- a new list as a value -/
def mN (m : MA) : ME := fun env s => (m env s).bind fun xs s => .ok (.lst xs) s
theorem le1000 {n : Nat} (h : n ≤ 1000) : n ≤ sizeLine := Nat.le_of_lt (small1000 h)
theorem e_tup {es : List Expr} {x1} {m : MA} {pos : Pos} (h : PA X es (tA P E m)) : PE X (.Tuple es x1 pos) (tE P E (mTup m)) :=
  (pe_tup h).imp fun σ H Q ⟨L, O, B, env, s, rel, p⟩ => ⟨L, O, B, env, s, rel, (Post.bind p).mono fun xs s1 L1 H1 b1 t1 p1 vs hvs => by
    by_cases hz : xs.length ≤ 1000
    · rw [if_pos hz] at p1
      have hz' : vs.length ≤ sizeLine := by rw [← hvs.len]; exact le1000 hz
      exact ⟨hz', fun q hq => p1 L1 _ (b1.new hq) (.new hq) _ (Dat.newTup b1 hq hz' hvs)⟩
    · rw [if_neg hz] at p1; exact p1.elim⟩
theorem n_lst {es : List Expr} {m : MA} {pos : Pos} (h : PA X es (tA P E m)) : PE X (.List es pos) (tN P E (mLst m)) :=
  (pe_lst h).imp fun σ H Q ⟨L, O, B, env, s, rel, p⟩ => ⟨L, O, B, env, s, rel, (Post.bind p).mono fun xs s1 L1 H1 b1 t1 p1 vs hvs => by
    by_cases hz : xs.length ≤ 1000
    · rw [if_pos hz] at p1
      have hz' : vs.length ≤ sizeLine := by rw [← hvs.len]; exact le1000 hz
      exact ⟨hz', fun q hq => nk_new t1 b1 hq hz' hvs (p1 L1 _ (b1.new hq) (.new hq))⟩
    · rw [if_neg hz] at p1; exact p1.elim⟩
/-- a new list as any value -/
theorem e_of {e : Expr} {m : MA} (h : PE X e (tN P E m)) : PE X e (tE P E (mN m)) :=
  h.imp fun σ H Q ⟨L, O, B, env, s, rel, p⟩ => ⟨L, O, B, env, s, rel, (Post.bind p).mono fun xs s1 L1 H1 b1 t1 p1 q vs _ h0 hl ho hh hz hvs =>
    p1 L1 H1 b1 .refl _ ⟨q, vs, rfl, ⟨hz, .inl hh, fun m => m.elim hl ho⟩, hvs.less fun a h => .inl h⟩⟩
end
end UH

set_option maxRecDepth 100000
set_option maxHeartbeats 4000000
namespace UH
open PySem PySem.Spec PyProof.Rows L2

/-! ### texts that the machine takes -/
def cOk (l : List Nat) : Prop := ∀ c ∈ l, c < 1114112
theorem sOk.str {x : Str} (h : sOk x) : PyData.strOk x = true := by
  unfold PyData.strOk
  rw [← Array.all_toList, List.all_eq_true]
  exact fun c hc => decide_eq_true (h.2 c hc)
theorem cOk_of (s : String) : cOk (Str.ofString s).cps.toList := by
  have e : (Str.ofString s).cps.toList = s.toList.map Char.toNat := TL.tl_ofString s
  intro c hc
  rw [e] at hc
  obtain ⟨ch, _, rfl⟩ := List.mem_map.mp hc
  have h := ch.valid
  have : ch.val.toNat < 1114112 := by
    simp only [UInt32.isValidChar, Nat.isValidChar] at h
    omega
  exact this
theorem cOk_app {x y : Str} (h : cOk x.cps.toList) (q : cOk y.cps.toList) : cOk (x ++ y).cps.toList := by
  have e : (x ++ y).cps.toList = x.cps.toList ++ y.cps.toList := TL.tl_append x y
  intro c hc
  rw [e] at hc
  exact (List.mem_append.mp hc).elim (h c) (q c)
theorem cOk_join (s : Str) (hs : cOk s.cps.toList) : ∀ {ys : List Str}, (∀ y ∈ ys, cOk y.cps.toList) → cOk (Str.join s ys).cps.toList
  | [], _ => fun c hc => by simp [Str.join, Str.empty] at hc
  | [x], h => h x List.mem_cons_self
  | x :: y :: r, h => cOk_app (cOk_app (h x List.mem_cons_self) hs) (cOk_join s hs fun z hz => h z (List.mem_cons_of_mem _ hz))
theorem cOk_mk {l : List Nat} (h : cOk l) : cOk (⟨l.toArray⟩ : Str).cps.toList := h
theorem cOk_reprChar (q c : Nat) (hq : q < 1114112) (hc : c < 1114112) : cOk (Builtin.Str.reprChar q c) := by
  have hx : ∀ w, cOk (List.replicate (w - ((Nat.toDigits 16 c).map Char.toNat).length) 48 ++ (Nat.toDigits 16 c).map Char.toNat) := fun w x hx => by
    rcases List.mem_append.mp hx with h | h
    · rw [List.eq_of_mem_replicate h]; omega
    · obtain ⟨ch, _, rfl⟩ := List.mem_map.mp h
      have h := ch.valid
      have : ch.val.toNat < 1114112 := by
        simp only [UInt32.isValidChar, Nat.isValidChar] at h
        omega
      exact this
  have two : ∀ a b : Nat, a < 1114112 → b < 1114112 → cOk [a, b] := fun a b h1 h2 x hx => by
    simp only [List.mem_cons, List.not_mem_nil, or_false] at hx
    rcases hx with rfl | rfl <;> assumption
  have pre : ∀ (a b : Nat) (l : List Nat), a < 1114112 → b < 1114112 → cOk l → cOk ([a, b] ++ l) := fun a b l h1 h2 h x hx => by
    rcases List.mem_append.mp hx with q | q
    · exact two a b h1 h2 x q
    · exact h x q
  unfold Builtin.Str.reprChar
  dsimp only
  split
  · exact two _ _ (by omega) hc
  · split
    · exact two _ _ (by omega) (by omega)
    · split
      · exact two _ _ (by omega) (by omega)
      · split
        · exact two _ _ (by omega) (by omega)
        · split
          · intro x hx'
            simp only [List.mem_cons, List.not_mem_nil, or_false] at hx'
            rw [hx']; exact hc
          · split
            · exact pre _ _ _ (by omega) (by omega) (hx 2)
            · split
              · exact pre _ _ _ (by omega) (by omega) (hx 4)
              · exact pre _ _ _ (by omega) (by omega) (hx 8)
theorem cOk_repr {x : Str} (h : cOk x.cps.toList) : cOk (reprText x).cps.toList := by
  have hq : reprQuote x < 1114112 := by
    unfold reprQuote
    split <;> decide
  have go : ∀ (l : List Nat) (acc : Array Nat), cOk l → cOk acc.toList → cOk (l.foldl (fun out c => out ++ (Builtin.Str.reprChar (reprQuote x) c).toArray) acc).toList := by
    intro l
    induction l with
    | nil => exact fun acc _ h => h
    | cons c r ih =>
      intro acc h1 h2
      refine ih _ (fun z hz => h1 z (List.mem_cons_of_mem _ hz)) ?_
      intro z hz
      rw [Array.toList_append] at hz
      rcases List.mem_append.mp hz with q | q
      · exact h2 z q
      · exact cOk_reprChar _ _ hq (h1 c List.mem_cons_self) z (by simpa using q)
  unfold reprText
  intro c hc
  rw [Array.toList_push, ← Array.foldl_toList] at hc
  rcases List.mem_append.mp hc with q | q
  · exact go _ _ h (by intro z hz; simp at hz; rw [hz]; exact hq) c q
  · simp at q; rw [q]; exact hq
theorem sOk_app {x y : Str} (h : sOk x) (q : sOk y) (z : x.length + y.length ≤ sizeLine) : sOk (x ++ y) := by
  refine ⟨?_, cOk_app h.2 q.2⟩
  have e : (x ++ y).length = x.length + y.length := by
    rw [TL.len_tl, TL.tl_append, List.length_append, ← TL.len_tl, ← TL.len_tl]
  rw [e]; exact z
theorem sOk_sign {c : Nat} (h : c < 1114112) : sOk ⟨#[c]⟩ := ⟨by show 1 ≤ sizeLine; decide, fun d hd => by
  have : d = c := by simpa using hd
  rw [this]; exact h⟩
theorem sOk_cut {z : Str} (h : sOk z) (lo hi : Option Int) : sOk (cutS z lo hi) := by
  refine ⟨Nat.le_trans ?_ h.1, fun c hc => h.2 c ?_⟩
  · show (cutS z lo hi).cps.size ≤ z.cps.size
    unfold cutS
    rw [List.size_toArray, List.length_take, List.length_drop, Array.length_toList]
    omega
  · have hc : c ∈ (z.cps.toList.drop (HT.sIx z.length 0 lo)).take (HT.sIx z.length z.length hi - HT.sIx z.length 0 lo) := hc
    exact List.mem_of_mem_drop (List.mem_of_mem_take hc)
theorem sOk_int {i : Int} (h : i.natAbs.log2 < 1920) : sOk (toString i : String) := by
  exact ⟨PySem.int_text_fits h, cOk_of _⟩
theorem txt_join (a : Str) (ys : List Str) : Txt.join a ys = Str.join a ys := StrLaws.glued_eq_join a ys
theorem sOk_join {a : Str} {ys : List Str} (ha : sOk a) (hy : ∀ y ∈ ys, sOk y) (hz : (ys.map (·.length)).sum + ys.length * a.length ≤ 16777216) : sOk (Str.join a ys) :=
  ⟨Nat.le_trans (StrLaws.join_length_le a ys) hz, cOk_join a ha.2 fun y hy' => (hy y hy').2⟩

/-! ### data as the library's -/
mutual
def D.toP : D → PyData
  | .non => .none
  | .bl b => .bool b
  | .int i => .int i
  | .str x => .str x
  | .tup ds => .tuple (D.toPs ds)
  | .lst ds => .list (D.toPs ds)
  | .dic _ => .none
  | .fn _ => .none
  | .obj _ => .none
  | .adr _ => .none
def D.toPs : List D → List PyData
  | [] => []
  | d :: ds => D.toP d :: D.toPs ds
end
mutual
/-- no dict, no function, no box within -/
def D.pl : D → Bool
  | .tup ds => D.pls ds
  | .lst ds => D.pls ds
  | .dic _ => false
  | .fn _ => false
  | .obj _ => false
  | .adr _ => false
  | _ => true
def D.pls : List D → Bool
  | [] => true
  | d :: ds => D.pl d && D.pls ds
end
section
variable {P : Pr} {L : List Addr} {O : Addr → Prop} {H : Hp}
mutual
theorem Dat.dp : ∀ (d : D) {v : V}, d.pl = true → Dat P L O H d v → Dp P.K H v d.toP ∧ d.toP.canLay0 = true
  | .non, v, _, h => by rw [show v = _ from h]; exact ⟨.non, rfl⟩
  | .bl b, v, _, h => by rw [show v = _ from h]; exact ⟨.bl b, rfl⟩
  | .int i, v, _, h => by rw [show v = _ from h]; exact ⟨.int i, rfl⟩
  | .str x, v, _, h => by rw [h.1]; exact ⟨.str x, sOk.str h.2⟩
  | .tup ds, v, p, h => by
    obtain ⟨a, vs, e, q, _, r⟩ := h.sqt
    obtain ⟨h1, h2⟩ := DatAll.dp ds p r
    rw [e]; exact ⟨.tup q h1, h2⟩
  | .lst ds, v, p, h => by
    obtain ⟨a, vs, e, q, _, r⟩ := h.weak.sql
    obtain ⟨h1, h2⟩ := DatAll.dp ds p r
    rw [e]; exact ⟨.lst q h1, h2⟩
  | .dic _, _, p, _ => by cases p
  | .fn _, _, p, _ => by cases p
  | .obj _, _, p, _ => by cases p
theorem DatAll.dp : ∀ (ds : List D) {vs : List V}, D.pls ds = true → DatAll P L O H ds vs → DpAll P.K H vs (D.toPs ds) ∧ PyData.canLayAll0 (D.toPs ds) = true
  | [], _, _, h => by rw [show _ = [] from h]; exact ⟨.nil, rfl⟩
  | d :: ds, _, p, ⟨v, r, e, h1, h2⟩ => by
    have p : (D.pl d && D.pls ds) = true := p
    rw [Bool.and_eq_true] at p
    obtain ⟨q1, q2⟩ := Dat.dp d p.1 h1
    obtain ⟨q3, q4⟩ := DatAll.dp ds p.2 h2
    rw [e]
    refine ⟨.cons q1 q3, ?_⟩
    show (PyData.canLay0 d.toP && PyData.canLayAll0 (D.toPs ds)) = true
    rw [q2, q4]; rfl
end
theorem WDat.dp {d : D} {v : V} (p : d.pl = true) (h : WDat P L O H d v) : Dp P.K H v d.toP ∧ d.toP.canLay0 = true := by
  cases d with
  | lst ds =>
    obtain ⟨a, vs, e, q, _, r⟩ := WDat.sql h
    obtain ⟨h1, h2⟩ := DatAll.dp ds p r
    rw [e]; exact ⟨.lst q h1, h2⟩
  | _ => exact Dat.dp (L := L) (O := O) _ p h
end
/-- plain and not deep -/
def D.ok (d : D) : Bool := d.pl && decide (d.toP.depth ≤ 60)
theorem WDat.shaped {P : Pr} {L : List Addr} {O : Addr → Prop} {H : Hp} {d : D} {v : V} (p : d.ok = true) (h : WDat P L O H d v) : Dp P.K H v d.toP ∧ SeqAt.shaped d.toP = true := by
  unfold D.ok at p
  rw [Bool.and_eq_true] at p
  obtain ⟨h1, h2⟩ := h.dp p.1
  refine ⟨h1, ?_⟩
  unfold SeqAt.shaped
  rw [h2, Bool.true_and]
  exact decide_eq_true (Nat.le_trans (of_decide_eq_true p.2) (by decide))
def D.eqv (d e : D) : Bool := PyData.eqv d.toP e.toP

/-! ### operators -/
def opAdd : D → D → Option D
  | .int i, .int j => some (.int (i + j))
  | .str x, .str y => if x.length + y.length ≤ sizeLine then some (.str (x ++ y)) else none
  | .tup xs, .tup ys => if xs.length + ys.length ≤ sizeLine then some (.tup (xs ++ ys)) else none
  | _, _ => none
def opSub : D → D → Option D
  | .int i, .int j => some (.int (i - j))
  | _, _ => none
def opMul : D → D → Option D
  | .int i, .int j => if -(2 ^ 64) < i ∧ i < 2 ^ 64 then some (.int (i * j)) else if -(2 ^ 64) < j ∧ j < 2 ^ 64 then some (.int (i * j)) else none
  | _, _ => none
def opMod : D → D → Option D
  | .int i, .int j => if 0 < j then some (.int (i % j)) else none
  | _, _ => none
def opFdiv : D → D → Option D
  | .int i, .int j => if 0 < j ∧ j < 1073741824 then some (.int (i / j)) else none
  | _, _ => none
def opPow : D → D → Option D
  | .int i, .int j => if 0 ≤ j ∧ j ≤ 1000000 ∧ i.natAbs < 2 ^ 64 then some (.int (i ^ j.toNat)) else none
  | _, _ => none
def opEq (d e : D) : Option D := if (d.ok && e.ok) = true then some (.bl (d.eqv e)) else none
def opNe (d e : D) : Option D := if (d.ok && e.ok) = true then some (.bl (!d.eqv e)) else none
def opLt : D → D → Option D
  | .int i, .int j => some (.bl (decide (i < j)))
  | .str x, .str y => some (.bl (decide (x.cps.toList < y.cps.toList)))
  | _, _ => none
def opLe : D → D → Option D
  | .int i, .int j => some (.bl (decide (i ≤ j)))
  | .str x, .str y => some (.bl (!decide (y.cps.toList < x.cps.toList)))
  | _, _ => none
def opGt : D → D → Option D
  | .int i, .int j => some (.bl (decide (j < i)))
  | .str x, .str y => some (.bl (decide (y.cps.toList < x.cps.toList)))
  | _, _ => none
def opGe : D → D → Option D
  | .int i, .int j => some (.bl (decide (j ≤ i)))
  | .str x, .str y => some (.bl (!decide (x.cps.toList < y.cps.toList)))
  | _, _ => none
/-- x stands in y -/
def inStr (x y : Str) : Bool := !(Builtin.Str.occurrences y x 0 y.length 1).isEmpty
def inD (neg : Bool) : D → D → Option D
  | .str x, .str y => some (.bl (if neg then !inStr x y else inStr x y))
  | d, .lst ds => if (d.ok && (D.lst ds).ok) = true then some (.bl (if neg then !ds.any fun z => z.eqv d else ds.any fun z => z.eqv d)) else none
  | d, .tup ds => if (d.ok && (D.lst ds).ok) = true then some (.bl (if neg then !ds.any fun z => z.eqv d else ds.any fun z => z.eqv d)) else none
  | _, _ => none
section
variable {X : Cx} {P : Pr}
theorem v_add (hK : X.K = P.K) : V2 P (fun x y H Q => rI0 (fun i j => .int (i + j)) x y H Q ∨ (∃ i j, x = .str i ∧ y = .str j ∧ i.length + j.length ≤ sizeLine ∧ Q (.str (i ++ j)) H) ∨ rCatA X.K x y H Q) opAdd := by
  intro L O H s x y d v w Q b hx hy e k
  unfold opAdd at e
  split at e
  · rename_i i j
    cases e
    exact .inl ⟨i, j, hx, hy, k _ H (Same.refl H) rfl⟩
  · rename_i a c
    split at e
    · rename_i hz
      cases e
      exact .inr (.inl ⟨a, c, hx.1, hy.1, hz, k _ H (Same.refl H) ⟨rfl, sOk_app hx.2 hy.2 hz⟩⟩)
    · cases e
  · rename_i xs ys
    split at e
    · rename_i hz
      cases e
      obtain ⟨a, vs, e1, q1, z1, r1⟩ := Dat.sqt hx
      obtain ⟨c, ws, e2, q2, z2, r2⟩ := Dat.sqt hy
      have hz' : vs.length + ws.length ≤ sizeLine := by rw [← r1.len, ← r2.len]; exact hz
      refine .inr (.inr ⟨a, c, vs, ws, e1, e2, by rw [hK]; exact q1, by rw [hK]; exact q2, hz', fun h0 => ?_, fun _ h0 => ?_, fun _ _ p hp => ?_⟩)
      · subst h0
        have : xs = [] := List.eq_nil_of_length_eq_zero (by rw [r1.len]; rfl)
        subst this
        rw [e2] at hy
        exact k _ H (Same.refl H) hy
      · subst h0
        have : ys = [] := List.eq_nil_of_length_eq_zero (by rw [r2.len]; rfl)
        subst this
        rw [List.append_nil] at k
        rw [e1] at hx
        exact k _ H (Same.refl H) hx
      · exact k _ _ (Same.upd hp) (Dat.newTup b hp (by rw [List.length_append]; exact hz') (r1.append r2))
    · cases e
  · cases e
theorem v_sub : V2 P (rI0 fun i j => .int (i - j)) opSub := by
  intro L O H s x y d v w Q b hx hy e k
  unfold opSub at e
  split at e
  · rename_i i j
    cases e
    exact ⟨i, j, hx, hy, k _ H (Same.refl H) rfl⟩
  · cases e
theorem v_mul : V2 P (rI CMul fun i j => .int (i * j)) opMul := by
  intro L O H s x y d v w Q b hx hy e k
  unfold opMul at e
  split at e
  · rename_i i j
    split at e
    · rename_i h
      cases e
      exact ⟨i, j, hx, hy, .inl h, k _ H (Same.refl H) rfl⟩
    · split at e
      · rename_i h
        cases e
        exact ⟨i, j, hx, hy, .inr h, k _ H (Same.refl H) rfl⟩
      · cases e
  · cases e
theorem v_mod : V2 P (rI (fun _ j => 0 < j) fun i j => .int (i % j)) opMod := by
  intro L O H s x y d v w Q b hx hy e k
  unfold opMod at e
  split at e
  · rename_i i j
    split at e
    · rename_i h
      cases e
      exact ⟨i, j, hx, hy, h, k _ H (Same.refl H) rfl⟩
    · cases e
  · cases e
theorem v_fdiv : V2 P (rI CDiv fun i j => .int (i / j)) opFdiv := by
  intro L O H s x y d v w Q b hx hy e k
  unfold opFdiv at e
  split at e
  · rename_i i j
    split at e
    · rename_i h
      cases e
      exact ⟨i, j, hx, hy, h, k _ H (Same.refl H) rfl⟩
    · cases e
  · cases e
theorem v_pow : V2 P (rI CPow fun i j => .int (i ^ j.toNat)) opPow := by
  intro L O H s x y d v w Q b hx hy e k
  unfold opPow at e
  split at e
  · rename_i i j
    split at e
    · rename_i h
      cases e
      exact ⟨i, j, hx, hy, h, k _ H (Same.refl H) rfl⟩
    · cases e
  · cases e
theorem v_eq : V2 P (rEqD P.K) opEq := by
  intro L O H s x y d v w Q b hx hy e k
  unfold opEq at e
  split at e
  · rename_i h
    rw [Bool.and_eq_true] at h
    cases e
    obtain ⟨h1, h2⟩ := hx.shaped h.1
    obtain ⟨h3, h4⟩ := hy.shaped h.2
    exact ⟨_, _, h1, h3, h2, h4, k _ H (Same.refl H) rfl⟩
  · cases e
theorem v_ne : V2 P (rNeD P.K) opNe := by
  intro L O H s x y d v w Q b hx hy e k
  unfold opNe at e
  split at e
  · rename_i h
    rw [Bool.and_eq_true] at h
    cases e
    obtain ⟨h1, h2⟩ := hx.shaped h.1
    obtain ⟨h3, h4⟩ := hy.shaped h.2
    exact ⟨_, _, h1, h3, h2, h4, k _ H (Same.refl H) rfl⟩
  · cases e
/-- orders of ints and of texts -/
theorem v_ord {f : D → D → Option D} {g : Int → Int → Bool} {g' : Str → Str → Bool} (h1 : ∀ i j, f (.int i) (.int j) = some (.bl (g i j))) (h2 : ∀ x y, f (.str x) (.str y) = some (.bl (g' x y)))
    (h3 : ∀ d e r, f d e = some r → (∃ i j, d = .int i ∧ e = .int j) ∨ ∃ x y, d = .str x ∧ e = .str y) :
    V2 P (fun x y H Q => rI0 (fun i j => .bl (g i j)) x y H Q ∨ ∃ i j, x = .str i ∧ y = .str j ∧ Q (.bl (g' i j)) H) f := by
  intro L O H s x y d v w Q b hx hy e k
  rcases h3 _ _ _ e with ⟨i, j, rfl, rfl⟩ | ⟨i, j, rfl, rfl⟩
  · rw [h1] at e; cases e
    exact .inl ⟨i, j, hx, hy, k _ H (Same.refl H) rfl⟩
  · rw [h2] at e; cases e
    exact .inr ⟨i, j, hx.1, hy.1, k _ H (Same.refl H) rfl⟩
theorem v_lt : V2 P (fun x y H Q => rI0 (fun i j => .bl (decide (i < j))) x y H Q ∨ ∃ i j, x = .str i ∧ y = .str j ∧ Q (.bl (decide (i.cps.toList < j.cps.toList))) H) opLt :=
  v_ord (fun _ _ => rfl) (fun _ _ => rfl) fun d e r h => by unfold opLt at h; split at h <;> first | exact .inl ⟨_, _, rfl, rfl⟩ | exact .inr ⟨_, _, rfl, rfl⟩ | cases h
theorem v_le : V2 P (fun x y H Q => rI0 (fun i j => .bl (decide (i ≤ j))) x y H Q ∨ ∃ i j, x = .str i ∧ y = .str j ∧ Q (.bl (!decide (j.cps.toList < i.cps.toList))) H) opLe :=
  v_ord (fun _ _ => rfl) (fun _ _ => rfl) fun d e r h => by unfold opLe at h; split at h <;> first | exact .inl ⟨_, _, rfl, rfl⟩ | exact .inr ⟨_, _, rfl, rfl⟩ | cases h
theorem v_gt : V2 P (fun x y H Q => rI0 (fun i j => .bl (decide (j < i))) x y H Q ∨ ∃ i j, x = .str i ∧ y = .str j ∧ Q (.bl (decide (j.cps.toList < i.cps.toList))) H) opGt :=
  v_ord (fun _ _ => rfl) (fun _ _ => rfl) fun d e r h => by unfold opGt at h; split at h <;> first | exact .inl ⟨_, _, rfl, rfl⟩ | exact .inr ⟨_, _, rfl, rfl⟩ | cases h
theorem v_ge : V2 P (fun x y H Q => rI0 (fun i j => .bl (decide (j ≤ i))) x y H Q ∨ ∃ i j, x = .str i ∧ y = .str j ∧ Q (.bl (!decide (i.cps.toList < j.cps.toList))) H) opGe :=
  v_ord (fun _ _ => rfl) (fun _ _ => rfl) fun d e r h => by unfold opGe at h; split at h <;> first | exact .inl ⟨_, _, rfl, rfl⟩ | exact .inr ⟨_, _, rfl, rfl⟩ | cases h
end
end UH

set_option maxRecDepth 100000
set_option maxHeartbeats 4000000
namespace UH
open PySem PySem.Spec PyProof.Rows L2

/-! ### in -/
section
variable {X : Cx} {P : Pr}
def rInD2 (K : PySem.W.Frag) (neg : Bool) : R2 := fun x y H Q => (∃ i j, x = .str i ∧ y = .str j ∧ Q (.bl (if neg then !inStr i j else inStr i j)) H) ∨
  ∃ d ds, Dp K H x d ∧ (Dp K H y (.list ds) ∨ Dp K H y (.tuple ds)) ∧ SeqAt.shaped d = true ∧ PyData.canLayAll0 ds = true ∧ Q (.bl (if neg then !ds.any fun z => PyData.eqv z d else ds.any fun z => PyData.eqv z d)) H
theorem op_in2 (hu : X.A.units + 65 < cLine) : OpR X (compareOp .In) (rInD2 X.K false) := by
  intro pins s σ H x y v u Q I rx ry h
  rcases h with h | ⟨d, ds, hd, he, sd, se, q⟩
  · exact op_in_str pins s σ H x y v u Q I rx ry h
  · obtain ⟨as, r1⟩ := Dp.reads I d x v hd rx
    have hr : X.A.units + 1 + min (PyData.depthAll ds) d.depth < cLine := room_in_shaped sd hu
    rcases he with he | he
    · obtain ⟨bs, r2⟩ := Dp.reads I (.list ds) y u he ry
      exact SeqAt.in_list_reads r2 r1 se (SeqAt.canLay_of_shaped sd) hr ⟨.bl _, H, I, rfl, q⟩
    · obtain ⟨bs, r2⟩ := Dp.reads I (.tuple ds) y u he ry
      exact SeqAt.in_tuple_reads r2 r1 se (SeqAt.canLay_of_shaped sd) hr ⟨.bl _, H, I, rfl, q⟩
theorem op_nin2 (hu : X.A.units + 65 < cLine) : OpR X (compareOp .NotIn) (rInD2 X.K true) := by
  intro pins s σ H x y v u Q I rx ry h
  rcases h with h | ⟨d, ds, hd, he, sd, se, q⟩
  · exact op_notIn_str pins s σ H x y v u Q I rx ry h
  · obtain ⟨as, r1⟩ := Dp.reads I d x v hd rx
    have hr : X.A.units + 1 + min (PyData.depthAll ds) d.depth < cLine := room_in_shaped sd hu
    rcases he with he | he
    · obtain ⟨bs, r2⟩ := Dp.reads I (.list ds) y u he ry
      exact SeqAt.notIn_list_reads r2 r1 se (SeqAt.canLay_of_shaped sd) hr ⟨.bl _, H, I, rfl, q⟩
    · obtain ⟨bs, r2⟩ := Dp.reads I (.tuple ds) y u he ry
      exact SeqAt.notIn_tuple_reads r2 r1 se (SeqAt.canLay_of_shaped sd) hr ⟨.bl _, H, I, rfl, q⟩
theorem toPs_map : ∀ ds : List D, D.toPs ds = ds.map D.toP
  | [] => rfl
  | d :: ds => by show d.toP :: D.toPs ds = _; rw [toPs_map ds]; rfl
theorem any_toPs (ds : List D) (d : D) : ((D.toPs ds).any fun z => PyData.eqv z d.toP) = ds.any fun z => z.eqv d := by
  rw [toPs_map, List.any_map]; rfl
theorem v_in (hK : X.K = P.K) (neg : Bool) : V2 P (rInD2 X.K neg) (inD neg) := by
  intro L O H s x y d v w Q b hx hy e k
  have seq : ∀ (ds : List D) (e : D), (e = .lst ds ∨ e = .tup ds) → WDat P L O H e w → (x.ok && (D.lst ds).ok) = true →
      (∀ u H', Same H H' → Dat P L O H' (.bl (if neg then !ds.any fun z => z.eqv x else ds.any fun z => z.eqv x)) u → Q u H') → rInD2 X.K neg v w H Q := fun ds e he hy h k => by
    rw [Bool.and_eq_true] at h
    obtain ⟨h1, h2⟩ := hx.shaped h.1
    have hp : D.pls ds = true := by
      have := h.2
      unfold D.ok at this
      rw [Bool.and_eq_true] at this
      exact this.1
    refine .inr ⟨_, D.toPs ds, by rw [hK]; exact h1, ?_, h2, ?_, ?_⟩
    · rcases he with rfl | rfl
      · exact .inl (by rw [hK]; exact (WDat.dp (d := .lst ds) hp hy).1)
      · exact .inr (by rw [hK]; exact (WDat.dp (d := .tup ds) hp hy).1)
    · rcases he with rfl | rfl
      · exact (WDat.dp (d := .lst ds) hp hy).2
      · exact (WDat.dp (d := .tup ds) hp hy).2
    · rw [any_toPs]
      exact k _ H (Same.refl H) rfl
  unfold inD at e
  split at e
  · rename_i i j
    cases e
    exact .inl ⟨i, j, hx.1, hy.1, k _ H (Same.refl H) rfl⟩
  · rename_i ds
    split at e
    · rename_i h
      cases e
      exact seq _ _ (.inl rfl) hy h k
    · cases e
  · rename_i ds
    split at e
    · rename_i h
      cases e
      exact seq _ _ (.inr rfl) hy h k
    · cases e
  · cases e
/-- is None, is not None -/
def D.isNon : D → Bool
  | .non => true
  | _ => false
def opIsN : D → D → Option D
  | d, .non => some (.bl d.isNon)
  | _, _ => none
def opNotN : D → D → Option D
  | d, .non => some (.bl (!d.isNon))
  | _, _ => none
theorem wdat_non {L : List Addr} {O : Addr → Prop} {H : Hp} {d : D} {v : V} (h : WDat P L O H d v) : decide (v = .non) = d.isNon := by
  cases d with
  | non => cases (show v = _ from h); rfl
  | bl b => cases (show v = _ from h); rfl
  | int b => cases (show v = _ from h); rfl
  | str b => cases h.1; rfl
  | tup b => obtain ⟨a, _, e, _⟩ := h; cases e; rfl
  | lst b => obtain ⟨a, _, e, _⟩ := h; cases e; rfl
  | dic b => obtain ⟨a, _, e, _⟩ := h; cases e; rfl
  | fn b => cases (show v = _ from h); rfl
  | adr b => cases (show v = _ from h); rfl
  | obj b => obtain ⟨a, _, e⟩ := h; cases e; rfl
theorem v_isN : V2 P (fun x y H Q => y = .non ∧ Q (.bl (decide (x = .non))) H) opIsN := by
  intro L O H s x y d v w Q b hx hy e k
  unfold opIsN at e
  split at e
  · cases e
    exact ⟨hy, by rw [wdat_non hx]; exact k _ H (Same.refl H) rfl⟩
  · cases e
theorem v_notN : V2 P (fun x y H Q => y = .non ∧ Q (.bl (!decide (x = .non))) H) opNotN := by
  intro L O H s x y d v w Q b hx hy e k
  unfold opNotN at e
  split at e
  · cases e
    exact ⟨hy, by rw [wdat_non hx]; exact k _ H (Same.refl H) rfl⟩
  · cases e

/-! ### items, slices -/
def opIx : D → D → Option D
  | .lst ds, .int i => atI ds i
  | .tup ds, .int i => atI ds i
  | .str z, .int i => (atI z.cps.toList i).map fun c => .str ⟨#[c]⟩
  | _, _ => none
theorem atI_dat {L : List Addr} {O : Addr → Prop} {H : Hp} {ds : List D} {vs : List V} {i : Int} {d : D} (h : DatAll P L O H ds vs) (e : atI ds i = some d) : ∃ v, atI vs i = some v ∧ Dat P L O H d v := by
  unfold atI at e ⊢
  rw [← h.len]
  cases q : ixN ds.length i with
  | none => rw [q] at e; cases e
  | some j =>
    rw [q] at e
    exact DatAll.get j h e
theorem v_ix (hK : X.K = P.K) : V2 P (rIx X.K) opIx := by
  intro L O H s x y d v w Q b hx hy e k
  unfold opIx at e
  split at e
  · rename_i ds i
    obtain ⟨a, vs, e1, q, z, r⟩ := WDat.sql hx
    obtain ⟨u, e2, hu⟩ := atI_dat r e
    exact .inl ⟨a, vs, i, u, e1, hy, by rw [hK]; exact q, e2, k _ H (Same.refl H) hu⟩
  · rename_i ds i
    obtain ⟨a, vs, e1, q, z, r⟩ := Dat.sqt hx
    obtain ⟨u, e2, hu⟩ := atI_dat r e
    exact .inr (.inl ⟨a, vs, i, u, e1, hy, by rw [hK]; exact q, e2, k _ H (Same.refl H) hu⟩)
  · rename_i z i
    cases q : atI z.cps.toList i with
    | none => rw [q] at e; cases e
    | some c =>
      rw [q] at e; cases e
      have hc : c < 1114112 := by
        refine hx.2.2 c ?_
        unfold atI at q
        cases q2 : ixN z.cps.toList.length i with
        | none => rw [q2] at q; cases q
        | some j => rw [q2] at q; exact List.mem_of_getElem? q
      exact .inr (.inr ⟨z, i, c, hx.1, hy, hx.2.1, q, k _ H (Same.refl H) ⟨rfl, sOk_sign hc⟩⟩)
  · cases e
theorem e_ix {E : XK} {a b : Expr} {ma mb : ME} {pos : Pos} (hK : X.K = P.K) (ha : PE X a (tW P E ma)) (hb : PE X b (tW P E mb)) (hs : PlainIx b := by exact fun _ _ => rfl) : PE X (.Subscript a b pos) (tE P E (m2 opIx ma mb)) :=
  (pe_ix ix_seq ha hb hs).imp fun _ _ _ h => tOp_of (v_ix hK) h
def cutD (xs : List D) (lo hi : Option Int) : List D := (xs.drop (HT.sIx xs.length 0 lo)).take (HT.sIx xs.length xs.length hi - HT.sIx xs.length 0 lo)
theorem DatAll.cut {L : List Addr} {O : Addr → Prop} {H : Hp} {ds : List D} {vs : List V} (h : DatAll P L O H ds vs) (lo hi : Option Int) : DatAll P L O H (cutD ds lo hi) (cutV vs lo hi) := by
  unfold cutD cutV
  rw [h.len]
  exact (h.drop _).take _
/-- a part of a slice -/
abbrev MO := En → Bxs → R (Option Int)
def moN : MO := fun _ s => .ok none s
def asI : D → Option Int
  | .int i => some i
  | _ => none
def moS (m : ME) : MO := fun env s => (m env s).bind fun d s => (R.ofO (asI d) s).bind fun i s => .ok (some i) s
def tO (P : Pr) (E : XK) (m : MO) : TO := fun σ H Q => ∃ L O B env s, Rel P L O H B σ env s ∧ Post P L O H E (m env s) fun o _ _ H' => Q o H'
theorem o_none {E : XK} : PO X none (tO P E moN) := ⟨fun pins s σ H Q I ⟨L, O, B, env, s', rel, p⟩ => po_none.run pins s σ H Q I (p L H rel.base .refl)⟩
theorem o_some {E : XK} {e : Expr} {m : ME} (h : PE X e (tE P E m)) : PO X (some e) (tO P E (moS m)) := ⟨fun pins s σ H Q I ⟨L, O, B, env, s', rel, p⟩ =>
  (po_some h).run pins s σ H Q I ⟨L, O, B, env, s', rel, (Post.bind p).mono fun x s1 L1 H1 b1 t1 p1 v hv => by
    obtain ⟨i, e, p1⟩ := Post.ofO (Post.bind p1)
    cases x <;> simp [asI] at e
    subst e
    exact ⟨_, hv, p1 L1 H1 b1 .refl L1 H1 b1 .refl⟩⟩⟩
def opSl : D → Option Int → Option Int → Option D
  | .tup ds, lo, hi => some (.tup (cutD ds lo hi))
  | .str z, lo, hi => some (.str (cutS z lo hi))
  | .lst ds, lo, hi => some (.lst (cutD ds lo hi))
  | _, _, _ => none
def mSl (a : ME) (lo hi : MO) : ME := fun env s => (a env s).bind fun x s => (lo env s).bind fun l s => (hi env s).bind fun h s => R.ofO (opSl x l h) s
/-- a list's slice: a new list -/
def opSlL : D → Option Int → Option Int → Option (List D)
  | .lst ds, lo, hi => some (cutD ds lo hi)
  | _, _, _ => none
def mSlL (a : ME) (lo hi : MO) : MA := fun env s => (a env s).bind fun x s => (lo env s).bind fun l s => (hi env s).bind fun h s => R.ofO (opSlL x l h) s
def rSlAll (K : PySem.W.Frag) : V → Option Int → Option Int → Hp → VK → Prop := fun x lo hi H Q => rSlL K x lo hi H Q ∨ rSlA K x lo hi H Q ∨ rSlS x lo hi H Q
theorem sl_all : SlR X (rSlAll X.K) := SlR.or sl_list (SlR.or sl_tupA sl_str)
theorem v_sl (hK : X.K = P.K) {L : List Addr} {O : Addr → Prop} {H : Hp} {s : Bxs} {x d : D} {v : V} {lo hi : Option Int} {Q : VK} (b : Base P L O H s) (hx : WDat P L O H x v) (e : opSl x lo hi = some d)
    (k : ∀ u H', Same H H' → Dat P L O H' d u → Q u H') : rSlAll X.K v lo hi H Q := by
  unfold opSl at e
  split at e
  · rename_i ds
    cases e
    obtain ⟨a, vs, e1, q, z, r⟩ := Dat.sqt hx
    refine .inr (.inl ⟨a, vs, e1, by rw [hK]; exact q, fun hw => ?_, fun hw p hp => ?_⟩)
    · have : cutD ds lo hi = ds := by
        unfold cutD
        rw [r.len, hw.1, hw.2, List.drop_zero, Nat.sub_zero, ← r.len, List.take_length]
      rw [this] at k
      rw [e1] at hx
      exact k _ H (Same.refl H) hx
    · exact k _ _ (Same.upd hp) (Dat.newTup b hp (Nat.le_trans (cutV_length _ _ _) z) (r.cut lo hi))
  · rename_i z
    cases e
    exact .inr (.inr ⟨z, hx.1, hx.2.1, k _ H (Same.refl H) ⟨rfl, sOk_cut hx.2 lo hi⟩⟩)
  · rename_i ds
    cases e
    obtain ⟨a, vs, e1, q, z, r⟩ := WDat.sql hx
    exact .inl ⟨a, vs, e1, by rw [hK]; exact q, fun p hp => k _ _ (Same.upd hp) (Dat.newLst b hp (Nat.le_trans (cutV_length _ _ _) z) (r.cut lo hi))⟩
  · cases e
theorem e_sl {E : XK} {a : Expr} {lo hi : Option Expr} {ma : ME} {ml mh : MO} {pos p2 : Pos} (hK : X.K = P.K) (ha : PE X a (tW P E ma)) (hl : PO X lo (tO P E ml)) (hh : PO X hi (tO P E mh)) : PE X (.Subscript a (.Slice lo hi none p2) pos) (tE P E (mSl ma ml mh)) :=
  (pe_slice sl_all ha hl hh).imp fun σ H Q ⟨L, O, B, env, s, rel, p⟩ => ⟨L, O, B, env, s, rel, (Post.bind p).mono fun x s1 L1 H1 b1 t1 p1 v hv =>
    ⟨L1, O, B, env, s1, rel.step b1 t1, (Post.bind p1).mono fun l s2 L2 H2 b2 t2 p2 => ⟨L2, O, B, env, s2, (rel.step b1 t1).step b2 t2, (Post.bind p2).mono fun h s3 L3 H3 b3 t3 p3 => by
      obtain ⟨d, e, k⟩ := Post.ofO p3
      exact v_sl hK b3 ((hv.step t2).step t3) e fun u H' g q => k L3 H' (b3.grow g) (.grow g) u q⟩⟩⟩
theorem n_sl {E : XK} {a : Expr} {lo hi : Option Expr} {ma : ME} {ml mh : MO} {pos p2 : Pos} (hK : X.K = P.K) (ha : PE X a (tW P E ma)) (hl : PO X lo (tO P E ml)) (hh : PO X hi (tO P E mh)) : PE X (.Subscript a (.Slice lo hi none p2) pos) (tN P E (mSlL ma ml mh)) :=
  (pe_slice sl_list ha hl hh).imp fun σ H Q ⟨L, O, B, env, s, rel, p⟩ => ⟨L, O, B, env, s, rel, (Post.bind p).mono fun x s1 L1 H1 b1 t1 p1 v hv =>
    ⟨L1, O, B, env, s1, rel.step b1 t1, (Post.bind p1).mono fun l s2 L2 H2 b2 t2 p2 => ⟨L2, O, B, env, s2, (rel.step b1 t1).step b2 t2, (Post.bind p2).mono fun h s3 L3 H3 b3 t3 p3 => by
      obtain ⟨d, e, k⟩ := Post.ofO p3
      unfold opSlL at e
      split at e
      · cases e
        obtain ⟨a, vs, e1, q, z, r⟩ := WDat.sql ((hv.step t2).step t3)
        exact ⟨a, vs, e1, by rw [hK]; exact q, fun p hp => nk_new ((t1.trans t2).trans t3) b3 hp (Nat.le_trans (cutV_length _ _ _) z) (r.cut l h) (k L3 _ (b3.new hp) (.new hp))⟩
      · cases e⟩⟩⟩

/-! ### calls of what is built in -/
theorem WDatAll.one {L : List Addr} {O : Addr → Prop} {H : Hp} {d : D} {vs : List V} (h : WDatAll P L O H [d] vs) : ∃ v, vs = [v] ∧ WDat P L O H d v := by
  obtain ⟨v, r, e, h1, h2⟩ := h
  rw [show r = [] from h2] at e
  exact ⟨v, e, h1⟩
theorem WDatAll.two {L : List Addr} {O : Addr → Prop} {H : Hp} {d e : D} {vs : List V} (h : WDatAll P L O H [d, e] vs) : ∃ v w, vs = [v, w] ∧ WDat P L O H d v ∧ WDat P L O H e w := by
  obtain ⟨v, r, q, h1, h2⟩ := h
  obtain ⟨w, rfl, h3⟩ := WDatAll.one h2
  exact ⟨v, w, q, h1, h3⟩
def VN (P : Pr) (r : List V → Hp → VK → Prop) (f : List D → Option D) : Prop := ∀ {L : List Addr} {O : Addr → Prop} {H : Hp} {s : Bxs} {ds : List D} {d : D} {vs : List V} {Q : VK}, Base P L O H s → WDatAll P L O H ds vs → f ds = some d →
  (∀ u H', Same H H' → Dat P L O H' d u → Q u H') → r vs H Q
/-- .. that gives a new list -/
def NN (P : Pr) (r : List V → Hp → VK → Prop) (f : List D → Option (List D)) : Prop := ∀ {L : List Addr} {O : Addr → Prop} {H : Hp} {s : Bxs} {ds es : List D} {vs : List V} {Q : VK}, Base P L O H s → WDatAll P L O H ds vs → f ds = some es →
  (∀ p ws, H p = none → ws.length ≤ sizeLine → DatAll P L O H es ws → Q (.ref p) (upd H p (.lst ws))) → r vs H Q
def mCB (f : List D → Option D) (m : MA) : ME := fun env s => (m env s).bind fun ds s => R.ofO (f ds) s
def mCN (f : List D → Option (List D)) (m : MA) : MA := fun env s => (m env s).bind fun ds s => R.ofO (f ds) s
theorem tCB_of {E : XK} {r : List V → Hp → VK → Prop} {f : List D → Option D} {m : MA} (hv : VN P r f) {σ : L2.St} {H : Hp} {Q : VK} (h : tE P E (mCB f m) σ H Q) : tCB r (tAW P E m) σ H Q := by
  obtain ⟨L, O, B, env, s, rel, p⟩ := h
  refine ⟨L, O, B, env, s, rel, (Post.bind p).mono fun ds s1 L1 H1 b1 t1 p1 vs hvs => ?_⟩
  obtain ⟨d, e, k⟩ := Post.ofO p1
  exact hv b1 hvs e fun u H' g q => k L1 H' (b1.grow g) (.grow g) u q
theorem tCN_of {E : XK} {r : List V → Hp → VK → Prop} {f : List D → Option (List D)} {m : MA} (hv : NN P r f) {σ : L2.St} {H : Hp} {Q : VK} (h : tN P E (mCN f m) σ H Q) : tCB r (tAW P E m) σ H Q := by
  obtain ⟨L, O, B, env, s, rel, p⟩ := h
  refine ⟨L, O, B, env, s, rel, (Post.bind p).mono fun ds s1 L1 H1 b1 t1 p1 vs hvs => ?_⟩
  obtain ⟨d, e, k⟩ := Post.ofO p1
  exact hv b1 hvs e fun q ws hq hz hd => nk_new t1 b1 hq hz hd (k L1 _ (b1.new hq) (.new hq))
section
variable {E : XK} {x : Str} {p pos : Pos} {e : Expr} {es : List Expr} {m : MA} {id T : String} {r : List V → Hp → VK → Prop} {f : List D → Option D} {g : List D → Option (List D)}
theorem e_callB (hc : CallR X (.builtin id) r) (hv : VN P r f) (hg : Gl X x) (hm : X.mg x = none) (hb : bootBuiltins x = some (.builtin id)) (ha : PA X (e :: es) (tAW P E m)) (hn : x ≠ "__name__" := by decide) (hdb : (x == ("__debug__" : Str)) = false := by decide)
    (he : starEach (e :: es) X.env = (false, eval e X.env) :: starEach es X.env := by rfl) (hpl : (backTo pos (starEach es X.env)).any (·.1) = false := by rfl) : PE X (.Call (.Name x p) (e :: es) [] pos) (tE P E (mCB f m)) :=
  (pe_callB hc hg hm hb ha hn hdb he hpl).imp fun _ _ _ h => tCB_of hv h
theorem e_callTy (hc : CallR X (.type T) r) (hv : VN P r f) (hg : Gl X x) (hm : X.mg x = none) (hb : bootBuiltins x = some (.type T)) (ha : PA X (e :: es) (tAW P E m)) (hn : x ≠ "__name__" := by decide) (hdb : (x == ("__debug__" : Str)) = false := by decide)
    (he : starEach (e :: es) X.env = (false, eval e X.env) :: starEach es X.env := by rfl) (hpl : (backTo pos (starEach es X.env)).any (·.1) = false := by rfl) : PE X (.Call (.Name x p) (e :: es) [] pos) (tE P E (mCB f m)) :=
  (pe_callTy hc hg hm hb ha hn hdb he hpl).imp fun _ _ _ h => tCB_of hv h
theorem n_callB (hc : CallR X (.builtin id) r) (hv : NN P r g) (hg : Gl X x) (hm : X.mg x = none) (hb : bootBuiltins x = some (.builtin id)) (ha : PA X (e :: es) (tAW P E m)) (hn : x ≠ "__name__" := by decide) (hdb : (x == ("__debug__" : Str)) = false := by decide)
    (he : starEach (e :: es) X.env = (false, eval e X.env) :: starEach es X.env := by rfl) (hpl : (backTo pos (starEach es X.env)).any (·.1) = false := by rfl) : PE X (.Call (.Name x p) (e :: es) [] pos) (tN P E (mCN g m)) :=
  (pe_callB hc hg hm hb ha hn hdb he hpl).imp fun _ _ _ h => tCN_of hv h
theorem n_callTy (hc : CallR X (.type T) r) (hv : NN P r g) (hg : Gl X x) (hm : X.mg x = none) (hb : bootBuiltins x = some (.type T)) (ha : PA X (e :: es) (tAW P E m)) (hn : x ≠ "__name__" := by decide) (hdb : (x == ("__debug__" : Str)) = false := by decide)
    (he : starEach (e :: es) X.env = (false, eval e X.env) :: starEach es X.env := by rfl) (hpl : (backTo pos (starEach es X.env)).any (·.1) = false := by rfl) : PE X (.Call (.Name x p) (e :: es) [] pos) (tN P E (mCN g m)) :=
  (pe_callTy hc hg hm hb ha hn hdb he hpl).imp fun _ _ _ h => tCN_of hv h
end
/-! len, all, any, tuple, list, int, str, repr, min -/
def fLen : List D → Option D
  | [.str x] => some (.int x.length)
  | [.lst ds] => some (.int ds.length)
  | [.tup ds] => some (.int ds.length)
  | _ => none
theorem v_len (hK : X.K = P.K) : VN P (fun xs H Q => ∃ x n, xs = [x] ∧ LenV X.K x H n ∧ Q (.int n) H) fLen := by
  intro L O H s ds d vs Q b h e k
  unfold fLen at e
  split at e
  · rename_i x
    cases e
    replace h := WDatAll.one h
    obtain ⟨v, rfl, h⟩ := h
    rw [h.1]
    exact ⟨_, _, rfl, ⟨h.2.1, rfl⟩, k _ H (Same.refl H) rfl⟩
  · rename_i es
    cases e
    replace h := WDatAll.one h
    obtain ⟨v, rfl, h⟩ := h
    obtain ⟨a, ws, e1, q, z, r⟩ := WDat.sql h
    rw [e1]
    exact ⟨_, _, rfl, .inl ⟨ws, by rw [hK]; exact q, rfl⟩, by rw [← r.len]; exact k _ H (Same.refl H) rfl⟩
  · rename_i es
    cases e
    replace h := WDatAll.one h
    obtain ⟨v, rfl, h⟩ := h
    obtain ⟨a, ws, e1, q, z, r⟩ := Dat.sqt h
    rw [e1]
    exact ⟨_, _, rfl, .inr ⟨ws, by rw [hK]; exact q, rfl⟩, by rw [← r.len]; exact k _ H (Same.refl H) rfl⟩
  · cases e
def asBs : List D → Option (List Bool)
  | [] => some []
  | .bl b :: r => (asBs r).map (b :: ·)
  | _ :: _ => none
theorem asBs_eq : ∀ {ds : List D} {bs : List Bool}, asBs ds = some bs → ds = bs.map D.bl
  | [], bs, h => by cases h; rfl
  | d :: r, bs, h => by
    cases d <;> simp only [asBs] at h <;> try cases h
    rename_i b
    cases q : asBs r with
    | none => rw [q] at h; cases h
    | some cs => rw [q] at h; cases h; rw [asBs_eq q]; rfl
def fAll : List D → Option D
  | [.lst ds] => (asBs ds).map fun bs => .bl (bs.all id)
  | _ => none
def fAny : List D → Option D
  | [.lst ds] => (asBs ds).map fun bs => .bl (bs.any id)
  | _ => none
theorem v_all (hK : X.K = P.K) : VN P (rAll X.K) fAll := by
  intro L O H s ds d vs Q b h e k
  unfold fAll at e
  split at e
  · rename_i es
    replace h := WDatAll.one h
    obtain ⟨v, rfl, h⟩ := h
    cases q : asBs es with
    | none => rw [q] at e; cases e
    | some bs =>
      rw [q] at e; cases e
      obtain ⟨a, ws, e1, qq, z, r⟩ := WDat.sql h
      rw [asBs_eq q] at r
      exact ⟨a, bs, by rw [e1], by rw [hK, ← r.bls]; exact qq, k _ H (Same.refl H) rfl⟩
  · cases e
theorem v_any (hK : X.K = P.K) : VN P (rAny X.K) fAny := by
  intro L O H s ds d vs Q b h e k
  unfold fAny at e
  split at e
  · rename_i es
    replace h := WDatAll.one h
    obtain ⟨v, rfl, h⟩ := h
    cases q : asBs es with
    | none => rw [q] at e; cases e
    | some bs =>
      rw [q] at e; cases e
      obtain ⟨a, ws, e1, qq, z, r⟩ := WDat.sql h
      rw [asBs_eq q] at r
      exact ⟨a, bs, by rw [e1], by rw [hK, ← r.bls]; exact qq, k _ H (Same.refl H) rfl⟩
  · cases e
def fTup : List D → Option D
  | [.lst ds] => some (.tup ds)
  | [.tup ds] => some (.tup ds)
  | _ => none
theorem v_tup (hK : X.K = P.K) : VN P (fun xs H Q => ∃ p ys, xs = [.ref p] ∧ ((SqL X.K H p ys ∧ ∀ l, H l = none → Q (.ref l) (upd H l (.tup ys))) ∨ (SqT X.K H p ys ∧ Q (.ref p) H))) fTup := by
  intro L O H s ds d vs Q b h e k
  unfold fTup at e
  split at e
  · cases e
    replace h := WDatAll.one h
    obtain ⟨v, rfl, h⟩ := h
    obtain ⟨a, ws, e1, q, z, r⟩ := WDat.sql h
    rw [e1]
    exact ⟨a, ws, rfl, .inl ⟨by rw [hK]; exact q, fun l hl => k _ _ (Same.upd hl) (Dat.newTup b hl z r)⟩⟩
  · cases e
    replace h := WDatAll.one h
    obtain ⟨v, rfl, h⟩ := h
    obtain ⟨a, ws, e1, q, z, r⟩ := Dat.sqt h
    rw [e1]
    rw [e1] at h
    exact ⟨a, ws, rfl, .inr ⟨by rw [hK]; exact q, k _ H (Same.refl H) h⟩⟩
  · cases e
def fList : List D → Option (List D)
  | [.lst ds] => some ds
  | [.tup ds] => some ds
  | _ => none
theorem v_list (hK : X.K = P.K) : NN P (fun xs H Q => ∃ p ys, xs = [.ref p] ∧ (SqL X.K H p ys ∨ SqT X.K H p ys) ∧ ∀ l, H l = none → Q (.ref l) (upd H l (.lst ys))) fList := by
  intro L O H s ds es vs Q b h e k
  unfold fList at e
  split at e
  · cases e
    replace h := WDatAll.one h
    obtain ⟨v, rfl, h⟩ := h
    obtain ⟨a, ws, e1, q, z, r⟩ := WDat.sql h
    rw [e1]
    exact ⟨a, ws, rfl, .inl (by rw [hK]; exact q), fun l hl => k l ws hl z r⟩
  · cases e
    replace h := WDatAll.one h
    obtain ⟨v, rfl, h⟩ := h
    obtain ⟨a, ws, e1, q, z, r⟩ := Dat.sqt h
    rw [e1]
    exact ⟨a, ws, rfl, .inr (by rw [hK]; exact q), fun l hl => k l ws hl z r⟩
  · cases e
def fInt : List D → Option D
  | [.int i] => some (.int i)
  | [.bl k] => some (.int (if k then 1 else 0))
  | [.str x] => if x.length ≤ 640 then (PySem.intText? x).map .int else none
  | _ => none
theorem v_int : VN P (fun xs H Q => ((∃ i, xs = [.int i] ∧ Q (.int i) H) ∨ ∃ k, xs = [.bl k] ∧ Q (.int (if k then 1 else 0)) H) ∨ ∃ a n, xs = [.str a] ∧ PySem.intText? a = some n ∧ a.length ≤ 640 ∧ Q (.int n) H) fInt := by
  intro L O H s ds d vs Q b h e k
  unfold fInt at e
  split at e
  · cases e
    replace h := WDatAll.one h
    obtain ⟨v, rfl, h⟩ := h
    exact .inl (.inl ⟨_, by rw [show v = _ from h], k _ H (Same.refl H) rfl⟩)
  · cases e
    replace h := WDatAll.one h
    obtain ⟨v, rfl, h⟩ := h
    exact .inl (.inr ⟨_, by rw [show v = _ from h], k _ H (Same.refl H) rfl⟩)
  · split at e
    · rename_i x hx
      replace h := WDatAll.one h
      obtain ⟨v, rfl, h⟩ := h
      cases q : PySem.intText? x with
      | none => rw [q] at e; cases e
      | some n =>
        rw [q] at e; cases e
        exact .inr ⟨x, n, by rw [h.1], q, hx, k _ H (Same.refl H) rfl⟩
    · cases e
  · cases e
def fStr : List D → Option D
  | [.int i] => if i.natAbs.log2 < 1920 then some (.str (toString i : String)) else none
  | [.str x] => some (.str x)
  | _ => none
theorem v_str : VN P (fun xs H Q => (∃ i, xs = [.int i] ∧ i.natAbs.log2 < 1920 ∧ Q (.str (toString i)) H) ∨ ∃ a, xs = [.str a] ∧ Q (.str a) H) fStr := by
  intro L O H s ds d vs Q b h e k
  unfold fStr at e
  split at e
  · split at e
    · rename_i i hi
      cases e
      replace h := WDatAll.one h
      obtain ⟨v, rfl, h⟩ := h
      exact .inl ⟨_, by rw [show v = _ from h], hi, k _ H (Same.refl H) ⟨rfl, sOk_int hi⟩⟩
    · cases e
  · cases e
    replace h := WDatAll.one h
    obtain ⟨v, rfl, h⟩ := h
    exact .inr ⟨_, by rw [h.1], k _ H (Same.refl H) ⟨rfl, h.2⟩⟩
  · cases e
def fMin : List D → Option D
  | [.int i, .int j] => some (.int (if j < i then j else i))
  | _ => none
theorem v_min : VN P (fun xs H Q => ∃ i j, xs = [.int i, .int j] ∧ Q (.int (if j < i then j else i)) H) fMin := by
  intro L O H s ds d vs Q b h e k
  unfold fMin at e
  split at e
  · cases e
    obtain ⟨v, w, rfl, h1, h2⟩ := WDatAll.two h
    exact ⟨_, _, by rw [show v = _ from h1, show w = _ from h2], k _ H (Same.refl H) rfl⟩
  · cases e

/-! ### list + list -/
def opCat : D → D → Option (List D)
  | .lst xs, .lst ys => if xs.length + ys.length ≤ sizeLine then some (xs ++ ys) else none
  | _, _ => none
def m2N (f : D → D → Option (List D)) (a b : ME) : MA := fun env s => (a env s).bind fun x s => (b env s).bind fun y s => R.ofO (f x y) s
def rCatB : R2 := fun x y H Q => ∃ a b xs ys, x = .ref a ∧ y = .ref b ∧ Rd H a (.lst xs) ∧ Rd H b (.lst ys) ∧ xs.length + ys.length ≤ sizeLine ∧ ∀ p, H p = none → Q (.ref p) (upd H p (.lst (xs ++ ys)))
theorem op_catB : OpR X (binaryOp .Add) rCatB := by
  intro pins s σ H x y v u Q I rx ry h
  obtain ⟨a, b, xs, ys, rfl, rfl, hA, hB, hz, q⟩ := h
  cases rx
  cases ry
  obtain ⟨z1, i1, n1, r1, g1⟩ := hA.ok I.hok
  obtain ⟨z2, i2, n2, r2, g2⟩ := hB.ok I.hok
  have l1 := r1.length
  have l2 := r2.length
  refine PySem.P.add_list g1 g2 ?_ (by rw [List.size_toArray, List.size_toArray]; omega)
  have ea : i1.toArray ++ i2.toArray = (i1 ++ i2).toArray := by simp
  rw [ea]
  exact ⟨.ref _, _, I.lnew (t' := s.toks) (r1.append r2) (by rw [List.length_append]; omega), rfl, q _ I.fresh⟩
theorem n_cat {E : XK} {a b : Expr} {ma mb : ME} {pos : Pos} (ha : PE X a (tW P E ma)) (hb : PE X b (tW P E mb)) : PE X (.BinOp a .Add b pos) (tN P E (m2N opCat ma mb)) :=
  (pe_op op_catB ha hb).imp fun σ H Q ⟨L, O, B, env, s, rel, p⟩ => ⟨L, O, B, env, s, rel, (Post.bind p).mono fun x s1 L1 H1 b1 t1 p1 v hv =>
    ⟨L1, O, B, env, s1, rel.step b1 t1, (Post.bind p1).mono fun y s2 L2 H2 b2 t2 p2 w hw => by
      obtain ⟨d, e, k⟩ := Post.ofO p2
      unfold opCat at e
      split at e
      · split at e
        · rename_i xs ys hz
          cases e
          obtain ⟨a1, vs, e1, q1, z1, r1⟩ := WDat.rd (hv.step t2)
          obtain ⟨a2, ws, e2, q2, z2, r2⟩ := WDat.rd hw
          have hz' : vs.length + ws.length ≤ sizeLine := by rw [← r1.len, ← r2.len]; exact hz
          exact ⟨a1, a2, vs, ws, e1, e2, q1, q2, hz', fun p hp => nk_new (t1.trans t2) b2 hp (by rw [List.length_append]; exact hz') (r1.append r2) (k L2 _ (b2.new hp) (.new hp))⟩
        · cases e
      · cases e⟩⟩
end
end UH

set_option maxRecDepth 100000
set_option maxHeartbeats 4000000
namespace UH
open PySem PySem.Spec PyProof.Rows L2

/-! ### defs: as the hand layer's promise, where in addition no repr is under way (a repr within a repr would read otherwise) -/
structure FnG (Pg : Program) (w : World) (K : PySem.W.Frag) (mg : Str → Option Value) (base : Heap) (k : Nat) (f : Addr) (fd : FuncData) (ps : List Str) (sp : Sp) : Prop where
  len : ∀ vs H Q E, sp vs H Q E → vs.length = ps.length
  run : ∀ (A : Around) (outer : List PySem.Env) (s : Shared) (H : Hp) (args : Args) (us : List Value) (vs : List V) (Q : VK) (E : XK), Room k A → A.guards = some [] → Env0 Pg w K mg base A outer s H →
    BindsTo s fd args (ps.zip us) → Vals vs us → sp vs H Q E → codeAny (model Pg w) A (.call (.ref f) args) (CR (L2.CX Pg w) outer Pg w H s Q E) s
theorem FnG.mono {Pg : Program} {w : World} {K : PySem.W.Frag} {mg : Str → Option Value} {base : Heap} {j k : Nat} {f : Addr} {fd : FuncData} {ps : List Str} {sp : Sp} (F : FnG Pg w K mg base j f fd ps sp) (h : j ≤ k) : FnG Pg w K mg base k f fd ps sp :=
  ⟨F.len, fun A outer s H args us vs Q E hr => F.run A outer s H args us vs Q E (hr.mono h)⟩
/-- a context in which no repr is under way, and what is raised reaches E -/
structure Ct (X : Cx) (k : Nat) (E : XK) : Prop where
  room : Room k X.A
  gd : X.A.guards = some []
  px : Passes (L2.CX X.prog X.w) X E
theorem Ct.hu {X : Cx} {k : Nat} {E : XK} (c : Ct X k E) : X.A.units + 65 < cLine := by have := c.room.un; omega
theorem Ct.mono {X : Cx} {j k : Nat} {E : XK} (c : Ct X k E) (h : j ≤ k) : Ct X j E := ⟨c.room.mono h, c.gd, c.px⟩

section
variable {X : Cx} {j k : Nat} {f : Addr} {fd : FuncData} {ps ks : List Str} {sp : Sp} {dvs : List V} {ds : List Value} {E : XK} {x : Str} {p pos : Pos} {e : Expr} {es : List Expr} {t tk : TA} {kws : List Keyword}
theorem ct_end {pins : List (Addr × Obj)} {σ : L2.St} {H : Hp} {s : Shared} {Q : VK} {r : Result} {s' : Shared} (c : Ct X j E) (I : Inv X pins σ H s) (h : CR (L2.CX X.prog X.w) X.stack X.prog X.w H s Q E r s') :
    match r with
    | .ok (.ret v) => EP X pins σ Q v s'
    | .ok _ => False
    | .error e => X.xe e s' := by
  rcases r with e | (_ | _ | _ | _)
  · exact c.px pins σ H s e s' I h
  all_goals first | exact h.elim | exact I.after h
theorem run_g {pins : List (Addr × Obj)} {σ : L2.St} {H : Hp} {s : Shared} {Q : VK} {us : List Value} {vs : List V} (c : Ct X j E) (F : FnG X.prog X.w X.K X.mg X.base k f fd ps sp) (hk : k ≤ j) (hb : Binds X.K fd ps ds) (hd : Vals dvs ds)
    (I : Inv X pins σ H s) (r : Vals vs us) (h : sp (vs ++ dvs) H Q E) : wpAny (model X.prog X.w) X.A (call (.ref f) us) (EP X pins σ Q) X.xe s := by
  have r2 : Vals (vs ++ dvs) (us ++ ds) := Vals.append r hd
  have hl : (us ++ ds).length = ps.length := (Vals.length r2).symm.trans (F.len _ _ _ _ h)
  refine wpAny_call (codeAny_mono (F.run X.A X.stack s H ⟨us, []⟩ (us ++ ds) (vs ++ dvs) Q E (c.room.mono hk) c.gd I.env0 (hb s us I.kIn hl) r2 h) fun r s' q => ?_)
  have z := ct_end c I q
  rcases r with e | (_ | _ | _ | _) <;> exact z
theorem pg_call (c : Ct X j E) (F : FnG X.prog X.w X.K X.mg X.base k f fd ps sp) (hj : k ≤ j) (hg : Gl X x) (hm : X.mg x = some (.ref f)) (hk : PySem.W.keepIn X.K (.ref f) = true) (hb : Binds X.K fd ps ds) (hd : Vals dvs ds)
    (ha : PA X (e :: es) t) (hdb : (x == ("__debug__" : Str)) = false := by decide) (he : starEach (e :: es) X.env = (false, eval e X.env) :: starEach es X.env := by rfl) (hpl : (backTo pos (starEach es X.env)).any (·.1) = false := by rfl) :
    PE X (.Call (.Name x p) (e :: es) [] pos) (tCall sp dvs E t) :=
  ⟨fun pins s σ H Q I h => wpAny_Call_Name_kw (ld_glob I hg hm (PySem.W.callWith_K (h₀ := X.base) I.ok.mod.kin hk
    (thn (ha.run pos pins s σ H _ I h) fun us s1 ⟨vs, H1, I1, r, q⟩ => ⟨I1.kIn, run_g c F hj hb hd I1 r q⟩) he hpl) hdb)⟩
end

section
variable {X : Cx} {j k : Nat} {f : Addr} {fd : FuncData} {ps ks : List Str} {sp : Sp} {dvs : List V} {ds : List Value} {E : XK} {x : Str} {p pos : Pos} {e : Expr} {es : List Expr} {t tk : TA} {kws : List Keyword}
theorem pg_call0 (c : Ct X j E) (F : FnG X.prog X.w X.K X.mg X.base k f fd ps sp) (hj : k ≤ j) (hg : Gl X x) (hm : X.mg x = some (.ref f)) (hk : PySem.W.keepIn X.K (.ref f) = true) (hb : Binds X.K fd ps ds) (hd : Vals dvs ds)
    (hdb : (x == ("__debug__" : Str)) = false := by decide) : PE X (.Call (.Name x p) [] [] pos) (tCall sp dvs E tNil) :=
  ⟨fun pins s σ H Q I h => wpAny_Call_Name_kw (ld_glob I hg hm (PySem.W.callWith_K0 I.kIn hk (run_g (us := []) c F hj hb hd I .nil h)) hdb)⟩
/-- how keywords bind: ks their names, g brings all values in order -/
structure KwB (K : PySem.W.Frag) (fd : FuncData) (ps : List Str) (n : Nat) (ks : List Str) (g : List Value → List Value → List Value) (gV : List V → List V → List V) : Prop where
  to : ∀ (s : Shared) (us ws : List Value), K.In s.heap → us.length = n → ws.length = ks.length → BindsTo s fd ⟨us, ks.zip ws⟩ (ps.zip (g us ws))
  rel : ∀ {vs : List V} {us : List Value} {zs : List V} {ws : List Value}, Vals vs us → Vals zs ws → Vals (gV vs zs) (g us ws)
def tCallG (n m : Nat) (sp : Sp) (gV : List V → List V → List V) (E : XK) (t tk : TA) : TE := fun σ H Q => t σ H fun vs H1 => tk σ H1 fun zs H2 => vs.length = n ∧ zs.length = m ∧ sp (gV vs zs) H2 Q E
variable {n : Nat} {g : List Value → List Value → List Value} {gV : List V → List V → List V}
theorem run_gk {pins : List (Addr × Obj)} {σ : L2.St} {H : Hp} {s : Shared} {Q : VK} {us ws : List Value} {vs zs : List V} (c : Ct X j E) (F : FnG X.prog X.w X.K X.mg X.base k f fd ps sp) (hk : k ≤ j) (hb : KwB X.K fd ps n ks g gV)
    (I : Inv X pins σ H s) (r : Vals vs us) (rz : Vals zs ws) (l1 : vs.length = n) (l2 : zs.length = ks.length) (h : sp (gV vs zs) H Q E) : wpAny (model X.prog X.w) X.A (call (.ref f) us (ks.zip ws)) (EP X pins σ Q) X.xe s := by
  refine wpAny_call (codeAny_mono (F.run X.A X.stack s H ⟨us, ks.zip ws⟩ (g us ws) (gV vs zs) Q E (c.room.mono hk) c.gd I.env0 (hb.to s us ws I.kIn ((Vals.length r).symm.trans l1) ((Vals.length rz).symm.trans l2)) (hb.rel r rz) h) fun r s' q => ?_)
  have z := ct_end c I q
  rcases r with e | (_ | _ | _ | _) <;> exact z
theorem pg_callK0 (c : Ct X j E) (F : FnG X.prog X.w X.K X.mg X.base k f fd ps sp) (hj : k ≤ j) (hg : Gl X x) (hm : X.mg x = some (.ref f)) (hk : PySem.W.keepIn X.K (.ref f) = true) (hb : KwB X.K fd ps 0 ks g gV) (hkw : PK X kws tk)
    (hall : (backToKw pos (keywordEach kws X.env)).all (·.1.isSome) = true := by rfl) (hks : (backToKw pos (keywordEach kws X.env)).filterMap (·.1) = ks := by rfl) (hdb : (x == ("__debug__" : Str)) = false := by decide)
    (hpl : ((backTo pos (starEach [] X.env)).any (·.1) || (backToKw pos (keywordEach kws X.env)).any (·.1.isNone)) = false := by rfl) :
    PE X (.Call (.Name x p) [] kws pos) (tCallG 0 ks.length sp gV E tNil tk) :=
  ⟨fun pins s σ H Q I h => wpAny_Call_Name_kw (ld_glob I hg hm (PySem.W.callWith_KW0 (h₀ := X.base) I.ok.mod.kin hk hall
    (thn (hkw.run pos pins s σ H _ I h) fun ws s2 ⟨zs, H2, I2, rz, q1, q2, q3⟩ => ⟨I2.kIn, by rw [hks]; exact run_gk (us := []) c F hj hb I2 .nil rz q1 q2 q3⟩) hpl) hdb)⟩
theorem pg_callK (c : Ct X j E) (F : FnG X.prog X.w X.K X.mg X.base k f fd ps sp) (hj : k ≤ j) (hg : Gl X x) (hm : X.mg x = some (.ref f)) (hk : PySem.W.keepIn X.K (.ref f) = true) (hb : KwB X.K fd ps n ks g gV) (ha : PA X (e :: es) t) (hkw : PK X kws tk)
    (hall : (backToKw pos (keywordEach kws X.env)).all (·.1.isSome) = true := by rfl) (hks : (backToKw pos (keywordEach kws X.env)).filterMap (·.1) = ks := by rfl) (hdb : (x == ("__debug__" : Str)) = false := by decide)
    (he : starEach (e :: es) X.env = (false, eval e X.env) :: starEach es X.env := by rfl)
    (hpl : ((backTo pos (starEach (e :: es) X.env)).any (·.1) || (backToKw pos (keywordEach kws X.env)).any (·.1.isNone)) = false := by rfl) :
    PE X (.Call (.Name x p) (e :: es) kws pos) (tCallG n ks.length sp gV E t tk) :=
  ⟨fun pins s σ H Q I h => wpAny_Call_Name_kw (ld_glob I hg hm (PySem.W.callWith_KW (h₀ := X.base) I.ok.mod.kin hk hall
    (thn (ha.run pos pins s σ H _ I h) fun us s1 ⟨vs, H1, I1, r, q⟩ => thn (hkw.run pos pins s1 σ H1 _ I1 q) fun ws s2 ⟨zs, H2, I2, rz, q1, q2, q3⟩ => ⟨I2.kIn, by rw [hks]; exact run_gk c F hj hb I2 r rz q1 q2 q3⟩) hpl he) hdb)⟩
end

/-- a def of the text keeps its promise, by its body -/
theorem fnG_of {Pg : Program} {w : World} {K : PySem.W.Frag} {mg : Str → Option Value} {base : Heap} {k : Nat} {f : Addr} {name qual : Str} {params : Arguments} {body : List Stmt} {sc : Scope} {dV kV doc pm cdv ct oc : Value} {an od : Option Addr}
    {osl : Array (Option Value)} {N ps : List Str} {sp : Sp} (lk : K.lookup f = some ⟨oc, od, .func (PySem.W.fnOf name qual params body sc dV kV doc pm an cdv ct), osl⟩) (hcd : PySem.W.codeIn K cdv qual = true) (S : FnScope N ps sc)
    (len : ∀ vs H Q E, sp vs H Q E → vs.length = ps.length)
    (hbody : ∀ (A : Around) (outer : List PySem.Env) (s : Shared) (H : Hp) (vs : List V) (Q : VK) (E : XK), Room k (A.deeper (envOfC qual sc s.heap.objs.size f cdv)) → A.guards = some [] → sp vs H Q E →
      ∃ t, PSs (cxOf (L2.CX Pg w) Pg w K mg base N qual sc f cdv A outer s H E) body t ∧ t { nx := fun _ H' => Q .non H', rt := Q } (start N vs) H) :
    FnG Pg w K mg base (k + 1) f (PySem.W.fnOf name qual params body sc dV kV doc pm an cdv ct) ps sp := by
  refine ⟨len, fun A outer s H args us vs Q E hr hgd e0 hb r hsp => ?_⟩
  have L := len _ _ _ _ hsp
  have KX : K.In s.heap := e0.mod.kin.keeps fun b o e => (e0.bs b o e).1
  have hkind : ∀ y ∈ ps.zip us, sc.names.lookup y.1 = some .local ∨ (sc.names.lookup y.1 = some .cell ∧ ((cellsFrom (s.heap.objs.size + 1) sc.names []).lookup y.1).isSome = true) := fun y hy =>
    (S.par y.1 (List.of_mem_zip (show (y.1, y.2) ∈ ps.zip us from hy)).1).imp id fun q => ⟨q, PySem.W.cellsFrom_some _ _ _ (.inl q)⟩
  refine codeAny_call_function hr.depth (KX _ _ lk) rfl S.co S.gen rfl (PySem.W.codeRec_of KX hcd) (hb _ _ _ _ (wpAny_newFunctionEnv_cells S.kind hkind fun env he s1 x => ?_))
  subst he
  refine ⟨(e0.mod.nolimit.keeps fun b o e => (e0.bs b o e).1).keeps x.toInCall.keep, codeAny_func ?_⟩
  obtain ⟨t, ht, hq⟩ := hbody A outer s H vs Q E (hr.deeper _) hgd hsp
  have I : Inv (cxOf (L2.CX Pg w) Pg w K mg base N qual sc f cdv A outer s H E) [] (start N vs) H s1 := inv_start S hr.hd e0 L r x
  refine wpAny_mono (ht.run [] s1 (start N vs) H _ I hq) (fun fl s' hs => ?_) fun e s' hs => hs
  rcases fl with _ | _ | _ | u
  · obtain ⟨σ', H', J, q⟩ := hs
    exact ⟨.non, H', J.os, J.bare, J.base, J.hok, rfl, q⟩
  · exact hs.elim fun _ h => h.elim fun _ h => h.2.elim
  · exact hs.elim fun _ h => h.elim fun _ h => h.2.elim
  · obtain ⟨v, σ', H', J, rv, q⟩ := hs
    exact ⟨v, H', J.os, J.bare, J.base, J.hok, rv, q⟩
end UH

set_option maxRecDepth 100000
set_option maxHeartbeats 4000000
namespace UH
open PySem PySem.Spec PyProof.Rows L2

/-! ### promises -/
/-- a def as a function of data -/
def spM (P : Pr) (n : Nat) (f : List D → Bxs → R D) : Sp := fun vs H Q E => vs.length = n ∧ ∃ L O s ds, Base P L O H s ∧ DatAll P L O H ds vs ∧ Post P L O H E (f ds s) fun d _ L' H' => ∀ v, Dat P L' O H' d v → Q v H'
/-- .. that hands back a new list -/
def spN (P : Pr) (n : Nat) (f : List D → Bxs → R (List D)) : Sp := fun vs H Q E => vs.length = n ∧ ∃ L O s ds, Base P L O H s ∧ DatAll P L O H ds vs ∧ Post P L O H E (f ds s) fun ds s' L' H' => NK P O H Q ds s' L' H'
def arity {α : Type} (n : Nat) (f : List D → Bxs → R α) (ds : List D) (s : Bxs) : R α := if ds.length = n then f ds s else .bad
def mCall (n : Nat) (f : List D → Bxs → R D) (m : MA) : ME := fun env s => (m env s).bind fun ds s => arity n f ds s
def mCallN (n : Nat) (f : List D → Bxs → R (List D)) (m : MA) : MA := fun env s => (m env s).bind fun ds s => arity n f ds s
/-- .. with keywords: g puts the values in order -/
def mCallK (n : Nat) (g : List D → List D → List D) (a b : Nat) (f : List D → Bxs → R D) (m mk : MA) : ME := fun env s => (m env s).bind fun ds s => (mk env s).bind fun es s => if ds.length = a ∧ es.length = b then arity n f (g ds es) s else .bad
def mCallKN (n : Nat) (g : List D → List D → List D) (a b : Nat) (f : List D → Bxs → R (List D)) (m mk : MA) : MA := fun env s => (m env s).bind fun ds s => (mk env s).bind fun es s => if ds.length = a ∧ es.length = b then arity n f (g ds es) s else .bad
/-- what a caller needs of a def -/
structure FdC (Pg : Program) (w : World) (K : PySem.W.Frag) (mg : Str → Option Value) (base : Heap) (k : Nat) (x : Str) (sp : Sp) : Prop where
  ex : ∃ (f : Addr) (fd : FuncData) (ps : List Str), FnG Pg w K mg base k f fd ps sp ∧ mg x = some (.ref f) ∧ PySem.W.keepIn K (.ref f) = true ∧ Binds K fd ps []
abbrev Fd (X : Cx) (k : Nat) (x : Str) (sp : Sp) : Prop := FdC X.prog X.w X.K X.mg X.base k x sp
/-- .. called with keywords -/
structure FkC (Pg : Program) (w : World) (K : PySem.W.Frag) (mg : Str → Option Value) (base : Heap) (k : Nat) (x : Str) (sp : Sp) (n : Nat) (ks : List Str) (gV : List V → List V → List V) : Prop where
  ex : ∃ (f : Addr) (fd : FuncData) (ps : List Str) (g : List Value → List Value → List Value), FnG Pg w K mg base k f fd ps sp ∧ mg x = some (.ref f) ∧ PySem.W.keepIn K (.ref f) = true ∧ KwB K fd ps n ks g gV
abbrev Fk (X : Cx) (k : Nat) (x : Str) (sp : Sp) (n : Nat) (ks : List Str) (gV : List V → List V → List V) : Prop := FkC X.prog X.w X.K X.mg X.base k x sp n ks gV
section
variable {X : Cx} {P : Pr} {E : XK} {j k n : Nat} {x : Str} {p pos : Pos} {e : Expr} {es : List Expr} {kws : List Keyword} {m mk : MA} {f : List D → Bxs → R D} {g : List D → Bxs → R (List D)}
theorem sp_of {α : Type} {L L' : List Addr} {O : Addr → Prop} {H H' : Hp} {s s1 : Bxs} {Q : VK} {ds : List D} {vs : List V} {f : List D → Bxs → R D} (b : Base P L' O H' s1) (h : DatAll P L' O H' ds vs)
    (q : Post P L' O H' E (arity n f ds s1) fun d _ L' H' => ∀ v, Dat P L' O H' d v → Q v H') : spM P n f vs H' Q E := by
  unfold arity at q
  split at q
  · rename_i hn
    exact ⟨by rw [← h.len]; exact hn, L', O, s1, ds, b, h, q⟩
  · exact q.elim
theorem spN_of {L L' : List Addr} {O : Addr → Prop} {H H' : Hp} {s s1 : Bxs} {Q : VK} {ds : List D} {vs : List V} {f : List D → Bxs → R (List D)} (t : Step L H L' H') (b : Base P L' O H' s1) (h : DatAll P L' O H' ds vs)
    (q : Post P L' O H' E (arity n f ds s1) fun ds s2 L2 H2 => NK P O H Q ds s2 L2 H2) : spN P n f vs H' Q E := by
  unfold arity at q
  split at q
  · rename_i hn
    exact ⟨by rw [← h.len]; exact hn, L', O, s1, ds, b, h, q.mono fun _ _ _ _ _ _ k p vs hb h0 h1 h2 h3 h4 h5 => k p vs hb (t.none h0) h1 h2 h3 h4 h5⟩
  · exact q.elim
theorem e_call (c : Ct X j E) (F : Fd X k x (spM P n f)) (hj : k ≤ j) (hg : Gl X x) (ha : PA X (e :: es) (tA P E m))
    (hdb : (x == ("__debug__" : Str)) = false := by decide) (he : starEach (e :: es) X.env = (false, eval e X.env) :: starEach es X.env := by rfl) (hpl : (backTo pos (starEach es X.env)).any (·.1) = false := by rfl) :
    PE X (.Call (.Name x p) (e :: es) [] pos) (tE P E (mCall n f m)) := by
  obtain ⟨f0, fd, ps, F, h1, h2, hb⟩ := F.ex
  refine (pg_call c F hj hg h1 h2 hb .nil ha hdb he hpl).imp fun σ H Q ⟨L, O, B, env, s, rel, q⟩ => ⟨L, O, B, env, s, rel, (Post.bind q).mono fun ds s1 L1 H1 b1 t1 p1 vs hvs => ?_⟩
  show spM P n f (vs ++ []) H1 Q E
  rw [List.append_nil]
  exact sp_of (α := D) (L := L) (H := H) (s := s) b1 hvs p1
theorem n_call (c : Ct X j E) (F : Fd X k x (spN P n g)) (hj : k ≤ j) (hg : Gl X x) (ha : PA X (e :: es) (tA P E m))
    (hdb : (x == ("__debug__" : Str)) = false := by decide) (he : starEach (e :: es) X.env = (false, eval e X.env) :: starEach es X.env := by rfl) (hpl : (backTo pos (starEach es X.env)).any (·.1) = false := by rfl) :
    PE X (.Call (.Name x p) (e :: es) [] pos) (tN P E (mCallN n g m)) := by
  obtain ⟨f0, fd, ps, F, h1, h2, hb⟩ := F.ex
  refine (pg_call c F hj hg h1 h2 hb .nil ha hdb he hpl).imp fun σ H Q ⟨L, O, B, env, s, rel, q⟩ => ⟨L, O, B, env, s, rel, (Post.bind q).mono fun ds s1 L1 H1 b1 t1 p1 vs hvs => ?_⟩
  show spN P n g (vs ++ []) H1 Q E
  rw [List.append_nil]
  exact spN_of (s := s) t1 b1 hvs p1
theorem e_call0 (c : Ct X j E) (F : Fd X k x (spM P n f)) (hj : k ≤ j) (hg : Gl X x) (hdb : (x == ("__debug__" : Str)) = false := by decide) :
    PE X (.Call (.Name x p) [] [] pos) (tE P E (mCall n f maNil)) := by
  obtain ⟨f0, fd, ps, F, h1, h2, hb⟩ := F.ex
  exact (pg_call0 c F hj hg h1 h2 hb .nil hdb).imp fun σ H Q ⟨L, O, B, env, s, rel, q⟩ => sp_of (α := D) (L := L) (H := H) (s := s) rel.base .nil q
theorem n_call0 (c : Ct X j E) (F : Fd X k x (spN P n g)) (hj : k ≤ j) (hg : Gl X x) (hdb : (x == ("__debug__" : Str)) = false := by decide) :
    PE X (.Call (.Name x p) [] [] pos) (tN P E (mCallN n g maNil)) := by
  obtain ⟨f0, fd, ps, F, h1, h2, hb⟩ := F.ex
  exact (pg_call0 c F hj hg h1 h2 hb .nil hdb).imp fun σ H Q ⟨L, O, B, env, s, rel, q⟩ => spN_of (s := s) .refl rel.base .nil q
/-- keywords' values -/
theorem k_nil : PK X [] (tA P E maNil) := ⟨fun pos pins s σ H Q I ⟨L, O, B, env, s', rel, q⟩ => pk_nil.run pos pins s σ H Q I (q L H rel.base .refl [] rfl)⟩
theorem k_cons {nm : Option Str} {kpos : Pos} {ma : ME} {mr : MA} (ha : PE X e (tE P E ma)) (hr : PK X kws (tA P E mr)) : PK X (⟨nm, e, kpos⟩ :: kws) (tA P E (maCons ma mr)) :=
  ⟨fun pos pins s σ H Q I ⟨L, O, B, env, s', rel, q⟩ => (pk_cons ha hr).run pos pins s σ H Q I ⟨L, O, B, env, s', rel, (Post.bind q).mono fun x s1 L1 H1 b1 t1 p1 v hv => ⟨L1, O, B, env, s1, rel.step b1 t1, (Post.bind p1).mono fun xs s2 L2 H2 b2 t2 p2 vs hvs =>
    p2 L2 H2 b2 .refl (v :: vs) (.cons (hv.step t2) hvs)⟩⟩⟩
/-- gV and gD put values and data in the same order -/
def SameG (gV : List V → List V → List V) (gD : List D → List D → List D) : Prop := ∀ {P : Pr} {L : List Addr} {O : Addr → Prop} {H : Hp} {ds es : List D} {vs zs : List V}, DatAll P L O H ds vs → DatAll P L O H es zs → DatAll P L O H (gD ds es) (gV vs zs)
theorem e_callK0 {ks : List Str} {gV : List V → List V → List V} {gD : List D → List D → List D} (c : Ct X j E) (F : Fk X k x (spM P n f) 0 ks gV) (hG : SameG gV gD) (hj : k ≤ j) (hg : Gl X x) (hkw : PK X kws (tA P E mk))
    (hall : (backToKw pos (keywordEach kws X.env)).all (·.1.isSome) = true := by rfl) (hks : (backToKw pos (keywordEach kws X.env)).filterMap (·.1) = ks := by rfl) (hdb : (x == ("__debug__" : Str)) = false := by decide)
    (hpl : ((backTo pos (starEach [] X.env)).any (·.1) || (backToKw pos (keywordEach kws X.env)).any (·.1.isNone)) = false := by rfl) :
    PE X (.Call (.Name x p) [] kws pos) (tE P E (mCallK n gD 0 ks.length f maNil mk)) := by
  obtain ⟨f0, fd, ps, g, F, h1, h2, hb⟩ := F.ex
  refine (pg_callK0 c F hj hg h1 h2 hb hkw hall hks hdb hpl).imp fun σ H Q ⟨L, O, B, env, s, rel, q⟩ => ⟨L, O, B, env, s, rel, (Post.bind (r := mk env s) (f := fun es s => if ([] : List D).length = 0 ∧ es.length = ks.length then arity n f (gD [] es) s else .bad) q).mono fun es s1 L1 H1 b1 t1 p1 zs hzs => ?_⟩
  split at p1
  · rename_i hl
    exact ⟨rfl, hzs.len.symm.trans hl.2, sp_of (α := D) (L := L) (H := H) (s := s) b1 (hG .nil hzs) p1⟩
  · exact p1.elim
theorem n_callK0 {ks : List Str} {gV : List V → List V → List V} {gD : List D → List D → List D} (c : Ct X j E) (F : Fk X k x (spN P n g) 0 ks gV) (hG : SameG gV gD) (hj : k ≤ j) (hg : Gl X x) (hkw : PK X kws (tA P E mk))
    (hall : (backToKw pos (keywordEach kws X.env)).all (·.1.isSome) = true := by rfl) (hks : (backToKw pos (keywordEach kws X.env)).filterMap (·.1) = ks := by rfl) (hdb : (x == ("__debug__" : Str)) = false := by decide)
    (hpl : ((backTo pos (starEach [] X.env)).any (·.1) || (backToKw pos (keywordEach kws X.env)).any (·.1.isNone)) = false := by rfl) :
    PE X (.Call (.Name x p) [] kws pos) (tN P E (mCallKN n gD 0 ks.length g maNil mk)) := by
  obtain ⟨f0, fd, ps, g0, F, h1, h2, hb⟩ := F.ex
  refine (pg_callK0 c F hj hg h1 h2 hb hkw hall hks hdb hpl).imp fun σ H Q ⟨L, O, B, env, s, rel, q⟩ => ⟨L, O, B, env, s, rel, (Post.bind (r := mk env s) (f := fun es s => if ([] : List D).length = 0 ∧ es.length = ks.length then arity n g (gD [] es) s else .bad) q).mono fun es s1 L1 H1 b1 t1 p1 zs hzs => ?_⟩
  split at p1
  · rename_i hl
    exact ⟨rfl, hzs.len.symm.trans hl.2, spN_of (s := s) t1 b1 (hG .nil hzs) p1⟩
  · exact p1.elim
theorem e_callK {a : Nat} {ks : List Str} {gV : List V → List V → List V} {gD : List D → List D → List D} (c : Ct X j E) (F : Fk X k x (spM P n f) a ks gV) (hG : SameG gV gD) (hj : k ≤ j) (hg : Gl X x) (ha : PA X (e :: es) (tA P E m)) (hkw : PK X kws (tA P E mk))
    (hall : (backToKw pos (keywordEach kws X.env)).all (·.1.isSome) = true := by rfl) (hks : (backToKw pos (keywordEach kws X.env)).filterMap (·.1) = ks := by rfl) (hdb : (x == ("__debug__" : Str)) = false := by decide)
    (he : starEach (e :: es) X.env = (false, eval e X.env) :: starEach es X.env := by rfl)
    (hpl : ((backTo pos (starEach (e :: es) X.env)).any (·.1) || (backToKw pos (keywordEach kws X.env)).any (·.1.isNone)) = false := by rfl) :
    PE X (.Call (.Name x p) (e :: es) kws pos) (tE P E (mCallK n gD a ks.length f m mk)) := by
  obtain ⟨f0, fd, ps, g, F, h1, h2, hb⟩ := F.ex
  refine (pg_callK c F hj hg h1 h2 hb ha hkw hall hks hdb he hpl).imp fun σ H Q ⟨L, O, B, env, s, rel, q⟩ => ⟨L, O, B, env, s, rel, (Post.bind q).mono fun ds s1 L1 H1 b1 t1 p1 vs hvs =>
    ⟨L1, O, B, env, s1, rel.step b1 t1, (Post.bind p1).mono fun es s2 L2 H2 b2 t2 p2 zs hzs => ?_⟩⟩
  split at p2
  · rename_i hl
    exact ⟨by rw [← hvs.len]; exact hl.1, by rw [← hzs.len]; exact hl.2, sp_of (α := D) (L := L) (H := H) (s := s) b2 (hG (hvs.step t2) hzs) p2⟩
  · exact p2.elim
end

/-! ### statements -/
inductive Fl where
  | next (env : En) | ret (d : D) | retN (ds : List D) | brk (env : En) | cont (env : En)
abbrev MS := En → Bxs → R Fl
/-- a frame's entry -/
structure Frm where
  L₀ : List Addr
  H₀ : Hp
  B : Addr → Prop
  pins : List (D × V) := []
section
variable (P : Pr) (F : Frm) (E : XK)
def At (σ : L2.St) (H : Hp) (env : En) (s : Bxs) : Prop := ∃ L O, Rel P L O H F.B σ env s ∧ Step F.L₀ F.H₀ L H ∧ (∀ a, O a → F.B a ∨ F.H₀ a = none) ∧ σ.length = env.length ∧ ∀ p ∈ F.pins, Dat P L O H p.1 p.2
def SPost (D : Ends) (r : R Fl) : Prop := match r with
  | .ok (.next env') s' => ∀ σ' H', At P F σ' H' env' s' → D.nx σ' H'
  | .ok (.ret d) s' => ∀ v H' L', Base P L' F.B H' s' → Step F.L₀ F.H₀ L' H' → Dat P L' F.B H' d v → D.rt v H'
  | .ok (.retN ds) s' => ∀ H' L', Base P L' F.B H' s' → Step F.L₀ F.H₀ L' H' → NK P F.B F.H₀ D.rt ds s' L' H'
  | .ok (.brk env') s' => ∀ σ' H', At P F σ' H' env' s' → D.bk σ' H'
  | .ok (.cont env') s' => ∀ σ' H', At P F σ' H' env' s' → D.ct σ' H'
  | .exc c as s' => ExcW P F.L₀ F.B F.H₀ E c as s'
  | .bad => False
def tS (m : MS) : TS := fun D σ H => ∃ env s, At P F σ H env s ∧ SPost P F E D (m env s)
end
section
variable {X : Cx} {P : Pr} {F : Frm} {E : XK}
/-- from an expression's end to the frame's -/
theorem At.step {σ : L2.St} {H H' : Hp} {env : En} {s s' : Bxs} {L L' : List Addr} {O : Addr → Prop} (rel : Rel P L O H F.B σ env s) (st : Step F.L₀ F.H₀ L H) (fr : ∀ a, O a → F.B a ∨ F.H₀ a = none) (hl : σ.length = env.length)
    (pn : ∀ p ∈ F.pins, Dat P L O H p.1 p.2) (b : Base P L' O H' s') (t : Step L H L' H') : At P F σ H' env s' := ⟨L', O, rel.step b t, st.trans t, fr, hl, fun p hp => (pn p hp).step t⟩
theorem ExcW.toF {L : List Addr} {O : Addr → Prop} {H : Hp} {B : Addr → Prop} {L₀ : List Addr} {H₀ : Hp} {c : Nat} {as : List D} {s' : Bxs} (h : ExcW P L₀ B H₀ E c as s') (out : ∀ a, B a → O a) (st : Step L₀ H₀ L H) : ExcW P L O H E c as s' :=
  fun dx H' L' vs b t d e => h dx H' L' vs (b.less out) (st.trans t) (d.less out) e
/-- an expression within a statement: what follows is said of its value -/
theorem to_post {α : Type} {L : List Addr} {O : Addr → Prop} {H : Hp} {σ : L2.St} {env : En} {s : Bxs} {D : Ends} {r : R α} {f : α → Bxs → R Fl} (rel : Rel P L O H F.B σ env s) (st : Step F.L₀ F.H₀ L H)
    (h : SPost P F E D (r.bind f)) : Post P L O H E r fun a s' _ _ => SPost P F E D (f a s') := by
  cases r with
  | ok a s' => exact fun _ _ _ _ => h
  | exc c as s' => exact ExcW.toF h rel.out st
  | bad => exact h

def msNil : MS := fun env s => .ok (.next env) s
def msSeq (a b : MS) : MS := fun env s => (a env s).bind fun f s => match f with
  | .next env' => b env' s
  | o => .ok o s
theorem ss_nil : PSs X [] (tS P F E msNil) := pss_nil.imp fun D σ H ⟨env, s, at_, q⟩ => q σ H at_
theorem ss_cons {st : Stmt} {rest : List Stmt} {a b : MS} (h1 : PS X st (tS P F E a)) (h2 : PSs X rest (tS P F E b)) : PSs X (st :: rest) (tS P F E (msSeq a b)) :=
  (pss_cons h1 h2).imp fun D σ H ⟨env, s, at_, q⟩ => ⟨env, s, at_, by
    unfold msSeq at q
    cases hr : a env s with
    | ok f s' =>
      rw [hr] at q
      cases f with
      | next env' => exact fun σ' H' at' => ⟨env', s', at', q⟩
      | ret d => exact q
      | retN d => exact q
      | brk e => exact q
      | cont e => exact q
    | exc c as s' => rw [hr] at q; exact q
    | bad => rw [hr] at q; exact q⟩
theorem ss_one {st : Stmt} {a : MS} (h1 : PS X st (tS P F E a)) : PSs X [st] (tS P F E a) := pss_one h1
def msPass : MS := fun env s => .ok (.next env) s
theorem s_pass {pos : Pos} : PS X (.Pass pos) (tS P F E msPass) := ps_pass.imp fun D σ H ⟨env, s, at_, q⟩ => q σ H at_
theorem s_break {pos : Pos} : PS X (.Break pos) (tS P F E fun env s => .ok (.brk env) s) := ps_break.imp fun D σ H ⟨env, s, at_, q⟩ => q σ H at_
theorem s_continue {pos : Pos} : PS X (.Continue pos) (tS P F E fun env s => .ok (.cont env) s) := ps_continue.imp fun D σ H ⟨env, s, at_, q⟩ => q σ H at_
def msExpr (m : ME) : MS := fun env s => (m env s).bind fun _ s => .ok (.next env) s
theorem s_expr {e : Expr} {m : ME} {pos : Pos} (h : PE X e (tE P E m)) (hs : swapsWith e none pos.line X.env = pure false := by rfl) : PS X (.Expr e pos) (tS P F E (msExpr m)) :=
  (ps_expr h hs).imp fun D σ H ⟨env, s, ⟨L, O, rel, st, fr, hl, pn⟩, q⟩ => ⟨L, O, F.B, env, s, rel, (to_post rel st q).mono fun d s1 L1 H1 b1 t1 p1 v hv => p1 σ H1 (At.step rel st fr hl pn b1 t1)⟩
def msRet (m : ME) : MS := fun env s => (m env s).bind fun d s => .ok (.ret d) s
theorem s_ret {e : Expr} {m : ME} {pos : Pos} (h : PE X e (tE P E m)) : PS X (.Return (some e) pos) (tS P F E (msRet m)) :=
  (ps_ret h).imp fun D σ H ⟨env, s, ⟨L, O, rel, st, fr, hl, pn⟩, q⟩ => ⟨L, O, F.B, env, s, rel, (to_post rel st q).mono fun d s1 L1 H1 b1 t1 p1 v hv => p1 v H1 L1 (b1.less rel.out) (st.trans t1) (hv.less rel.out)⟩
def msRet0 : MS := fun _ s => .ok (.ret .non) s
theorem s_ret0 {pos : Pos} : PS X (.Return none pos) (tS P F E msRet0) := ps_retN.imp fun D σ H ⟨env, s, ⟨L, O, rel, st, fr, hl, pn⟩, q⟩ => q .non H L (rel.base.less rel.out) st rfl
def msRetN (m : MA) : MS := fun env s => (m env s).bind fun ds s => .ok (.retN ds) s
theorem s_retN {e : Expr} {m : MA} {pos : Pos} (h : PE X e (tN P E m)) : PS X (.Return (some e) pos) (tS P F E (msRetN m)) :=
  (ps_ret h).imp fun D σ H ⟨env, s, ⟨L, O, rel, st, fr, hl, pn⟩, q⟩ => ⟨L, O, F.B, env, s, rel, (to_post rel st q).mono fun ds s1 L1 H1 b1 t1 p1 p vs hb h0 h1 h2 h3 h4 h5 =>
    p1 H1 L1 (b1.less rel.out) (st.trans t1) p vs (hb.less fun a h => h.imp (rel.out a) id) (st.none h0) h1 (fun z => h2 (rel.out p z)) h3 h4 (h5.less fun a h => h.imp (rel.out a) id)⟩
/-- the frame's own list goes back -/
def msRetOwn (i : Nat) : MS := fun env s => match env[i]? with
  | some (.own ds) => .ok (.retN ds) s
  | _ => .bad
theorem s_retOwn (i : Nat) {x : Str} {p pos : Pos} (h : PE X (.Name x p) (tVar i)) : PS X (.Return (some (.Name x p)) pos) (tS P F E (msRetOwn i)) :=
  (ps_ret h).imp fun D σ H ⟨env, s, ⟨L, O, rel, st, fr, hl, pn⟩, q⟩ => by
    unfold msRetOwn at q
    split at q
    · rename_i ds e
      obtain ⟨a, vs, h1, h2, ho, hh, hz, hd⟩ := rel.slot i _ e
      have hn : F.H₀ a = none := (fr a ho).elim (fun z => absurd z h2) id
      exact ⟨_, h1, q H L (rel.base.less rel.out) st a vs (rel.base.less fun b hb => hb.elim (rel.out b) fun z => by rw [z]; exact ho) hn (fun m => rel.base.dis a m ho) h2 hh hz (hd.less fun b hb => hb.elim (rel.out b) fun z => by rw [z]; exact ho)⟩
    · exact q.elim
def msIf (c : MT) (a b : MS) : MS := fun env s => (c env s).bind fun x s => if x = true then a env s else b env s
theorem s_if {c : Expr} {a b : List Stmt} {mc : MT} {ma mb : MS} {pos : Pos} (hc : PT X c (tT P E mc)) (ha : PSs X a (tS P F E ma)) (hb : PSs X b (tS P F E mb)) : PS X (.If c a b pos) (tS P F E (msIf mc ma mb)) :=
  (ps_if hc ha hb).imp fun D σ H ⟨env, s, ⟨L, O, rel, st, fr, hl, pn⟩, q⟩ => ⟨L, O, F.B, env, s, rel, (to_post rel st q).mono fun x s1 L1 H1 b1 t1 p1 => by
    cases x with
    | true => exact iteT ⟨env, s1, At.step rel st fr hl pn b1 t1, p1⟩
    | false => exact iteF ⟨env, s1, At.step rel st fr hl pn b1 t1, p1⟩⟩

/-! names stored -/
theorem get_set {α : Type} {l : List α} {i j : Nat} {a b : α} (h : (l.set i a)[j]? = some b) : (j = i ∧ b = a ∧ i < l.length) ∨ (j ≠ i ∧ l[j]? = some b) := by
  by_cases e : i = j
  · subst e
    by_cases hl : i < l.length
    · rw [List.getElem?_set_self hl] at h
      exact .inl ⟨rfl, (Option.some.inj h).symm, hl⟩
    · rw [List.getElem?_eq_none (by rw [List.length_set]; omega)] at h
      cases h
  · rw [List.getElem?_set_ne e] at h
    exact .inr ⟨fun z => e z.symm, h⟩
theorem Rel.setVal {L : List Addr} {O B : Addr → Prop} {H : Hp} {σ : L2.St} {env : En} {s : Bxs} (r : Rel P L O H B σ env s) (hl : σ.length = env.length) (i : Nat) {d : D} {v : V} (h : Dat P L O H d v) : Rel P L O H B (σ.set i (some v)) (env.set i (.val d)) s where
  base := r.base
  out := r.out
  len := by rw [List.length_set, List.length_set]; exact hl
  slot := fun j sl e => by
    rcases get_set e with ⟨e1, e2, e3⟩ | ⟨e1, e2⟩
    · subst e1 e2
      exact ⟨v, by rw [List.getElem?_set_self (by omega)], h⟩
    · rw [List.getElem?_set_ne (fun z => e1 z.symm)]
      exact r.slot j sl e2
  inj := fun a b xs ys c e1 e2 e3 e4 => by
    rcases get_set e1 with ⟨_, q, _⟩ | ⟨n1, q1⟩
    · cases q
    · rcases get_set e2 with ⟨_, q, _⟩ | ⟨n2, q2⟩
      · cases q
      · rw [List.getElem?_set_ne (fun z => n1 z.symm)] at e3
        rw [List.getElem?_set_ne (fun z => n2 z.symm)] at e4
        exact r.inj a b xs ys c q1 q2 e3 e4
def msSet (i : Nat) (m : ME) : MS := fun env s => (m env s).bind fun d s => .ok (.next (env.set i (.val d))) s
theorem At.setVal {σ : L2.St} {H : Hp} {env : En} {s s' : Bxs} {L L' : List Addr} {O : Addr → Prop} {H' : Hp} (rel : Rel P L O H F.B σ env s) (st : Step F.L₀ F.H₀ L H) (fr : ∀ a, O a → F.B a ∨ F.H₀ a = none) (hl : σ.length = env.length) (pn : ∀ p ∈ F.pins, Dat P L O H p.1 p.2)
    (b : Base P L' O H' s') (t : Step L H L' H') (i : Nat) {d : D} {v : V} (h : Dat P L' O H' d v) : At P F (σ.set i (some v)) H' (env.set i (.val d)) s' :=
  ⟨L', O, (rel.step b t).setVal hl i h, st.trans t, fr, by rw [List.length_set, List.length_set]; exact hl, fun p hp => (pn p hp).step t⟩
theorem s_set (i : Nat) {x : Str} {e : Expr} {m : ME} {pos p' : Pos} (hN : X.N.Nodup) (hx : Loc X.env.scope x) (h : PE X e (tE P E m)) (hi : X.N[i]? = some x := by rfl) (hs : swapsWith e (some (.Name x p')) pos.line X.env = pure false := by rfl) (hf : X.fn x = true ∨ X.env.scope.names.lookup x = some .local := by first | exact .inl rfl | exact .inr rfl) :
    PS X (.Assign [.Name x p'] e pos) (tS P F E (msSet i m)) :=
  (ps_set hN hi hx h hs hf).imp fun D σ H ⟨env, s, ⟨L, O, rel, st, fr, hl, pn⟩, q⟩ => ⟨L, O, F.B, env, s, rel, (to_post rel st q).mono fun d s1 L1 H1 b1 t1 p1 v hv => p1 _ H1 (At.setVal rel st fr hl pn b1 t1 i hv)⟩
end
end UH

set_option maxRecDepth 100000
set_option maxHeartbeats 4000000
namespace UH
open PySem PySem.Spec PyProof.Rows L2

/-! ### a comprehension that an exception may leave -/
section
variable {M : Model} {A : Around} {E : Value → Shared → Prop} {s : Shared} {env : PySem.Env}
def cPost (M : Model) (A : Around) (E : Value → Shared → Prop) (use : Option (Value → Sem Unit)) (Q : Value → Shared → Prop) (acc : Value) (ce : PySem.Env) (r : Result) (s' : Shared) : Prop :=
  match r, use with
  | .ok _, none => ∃ m, s'.heap.Ns ce.locals m ∧ ∀ h', Heap.SameBut ce.locals s'.heap h' → Q acc { s' with heap := h' }
  | .ok _, some u => wpAny M A (u acc) (fun _ s2 => ∃ m, s2.heap.Ns ce.locals m ∧ ∀ h', Heap.SameBut ce.locals s2.heap h' → Q .none { s2 with heap := h' }) E s'
  | .error x, _ => ∃ m, s'.heap.Ns ce.locals m ∧ ∀ h', Heap.SameBut ce.locals s'.heap h' → wpAny M A (passOn "comprehension.variables-let-go" x ce : Sem Value) (fun _ _ => False) E { s' with heap := h' }

theorem wp_comp {e : Expr} {sc : Scope} {pos : Pos} {newAcc first : Sem Value} {g : Comprehension} {gs : List Comprehension} {cl : List (Str × Addr)} {use : Option (Value → Sem Unit)} {Q : Value → Shared → Prop}
    (h1 : clausesOf e = g :: gs) (h2 : ∀ x, foldedSetIterable g.iter env x = pure x) (h3 : closureFor sc env = pure cl) (h4 : sc.kind = .function) (h5 : ∀ x ∈ sc.names, x.2 = .local → sc.names.lookup x.1 = some .local)
    (h : wpAny M A first (fun x s₁ => wpAny M A (pyIter x) (fun it s₂ => wpAny M A newAcc (fun acc s₃ => wpAny M A (newFunctionEnv sc env.globals cl [] env.qual none .none (some env)) (fun c s₄ =>
        codeAny M A (.compStart e 0 it acc { c with scope := relabel sc env }) (cPost M A E use Q acc { c with scope := relabel sc env }) s₄) E s₃) E s₂) E s₁) E s) :
    wpAny M A (comprehension e sc env pos newAcc false first use) Q E s := by
  unfold comprehension
  rw [h3, h1]
  have keep : ∀ {x : Value} {s : Shared}, E x s → E x s := fun q => q
  refine wpAny_bind (wpAny_mono h (fun x t1 k1 => ?_) fun _ _ q => q)
  refine wpAny_bind (wpAny_standAt (wpAny_bind (wpAny_of_eq (h2 x) (wpAny_bind (wpAny_holding ?_)))))
  refine wpAny_mono k1 (fun it t2 k2 => ?_) fun _ _ q => q
  refine wpAny_standIf (wpAny_bind (wpAny_mono k2 (fun acc t3 k3 => ?_) fun _ _ q => q))
  refine wpAny_bind (wpAny_pure (wpAny_bind (wpAny_mono k3 (fun c t4 k4 => ?_) fun _ _ q => q)))
  dsimp only
  have own : ∀ x ∈ (sc.names.filter fun x => (x.2 == .local || x.2 == .cell) && x.1 != (".0" : Str)).reverse, x.2 = .local → PySem.Env.kindOf { c with scope := relabel sc env } x.1 = some .local :=
    fun x hx hl => lookup_relabel_local (h5 x (List.mem_filter.mp (List.mem_reverse.mp hx)).1 hl)
  refine wpAny_holding (wpAny_bind (wpAny_attempt (wpAny_holding (wpAny_run (codeAny_mono k4 fun r t5 hr => ?_)))))
  rcases r with x | f
  · have hr' : ∃ m, t5.heap.Ns c.locals m ∧ ∀ h', Heap.SameBut c.locals t5.heap h' → wpAny M A (passOn "comprehension.variables-let-go" x { c with scope := relabel sc env } : Sem Value) (fun _ _ => False) E { t5 with heap := h' } := by cases use <;> exact hr
    obtain ⟨m, hn, hr⟩ := hr'
    exact wpAny_bind (wpAny_holding (wpAny_comp_letGo (cenv := { c with scope := relabel sc env }) h4 _ t5 m own hn fun h' _ _ sb => wpAny_mono (hr h' sb) (fun _ _ f => f.elim) fun _ _ y => y))
  · cases use with
    | none =>
      obtain ⟨m, hn, hr⟩ := hr
      exact wpAny_bind (wpAny_holding (wpAny_comp_letGo (cenv := { c with scope := relabel sc env }) h4 _ t5 m own hn fun h' _ _ sb => wpAny_pure (hr h' sb)))
    | some u =>
      refine wpAny_bind (wpAny_rule (wpAny_bind (wpAny_holding (wpAny_mono hr (fun _ t6 hr' => ?_) fun _ _ q => q))))
      obtain ⟨m, hn, hr'⟩ := hr'
      refine wpAny_bind (wpAny_comp_letGo (cenv := { c with scope := relabel sc env }) h4 _ t6 m (fun x hx => own x ?_) hn fun h' _ _ sb => wpAny_pure (hr' h' sb))
      exact (List.mem_append.mp hx).elim List.mem_of_mem_drop List.mem_of_mem_take
end
theorem noteFrame_same {a b : PySem.Env} (h : a.frame = b.frame) (e : Value) : noteFrame e a = noteFrame e b := by
  unfold noteFrame PySem.frameOf
  rw [h]

/-- what is raised here is taken: E says which; the frame's record may be noted already -/
structure Tk (X : Cx) (E : XK) : Prop where
  fr : ∃ e0 o0 Lf, X.stack = e0 :: o0 ∧ e0.frame = some Lf ∧ X.env.frame = some Lf
  take : ∀ (Lf a : Addr) (B : Heap) (sI : Shared) (pins : List (Addr × Obj)) (σ : L2.St) (H : Hp) (cls : Value) (d : Option Addr) (s' : Shared), X.env.frame = some Lf → Inv X pins σ H sI →
    (∀ b o, sI.heap.get? b = some o → b ∉ frs X.stack → B.get? b = some o) → sI.heap.UpToSlots s'.heap → Sky B X.stack a (Zc cls d) Lf s'.heap → H a = none → s'.os = sI.os → AllBare s'.gens → E cls d H → X.xe (.ref a) s'
theorem Tk.of {X : Cx} {E : XK} (hs : X.stack = X.env :: X.outer) (hf : X.env.frame = some X.env.locals) (tk : Takes X fun cls d _ H => E cls d H) : Tk X E :=
  ⟨⟨_, _, _, hs, hf, hf⟩, fun Lf a B sI pins σ H cls d s' h1 I nb up sky na os ag e => tk _ _ ⟨a, B, sI, pins, σ, H, cls, d, rfl, I, nb, up, by rw [h1] at hf; cases hf; exact sky, na, os, ag, e⟩⟩
/-- an exception of a call flies over our frames -/
theorem of_call {X : Cx} {pins : List (Addr × Obj)} {σ : L2.St} {H : Hp} {s s' : Shared} {u : Value} {E : XK} (I : Inv X pins σ H s) (c : L2.CX X.prog X.w X.stack H s E u s') :
    ∃ (a : Addr) (B : Heap) (sI : Shared) (H' : Hp) (cls : Value) (d : Option Addr), u = .ref a ∧ Inv X pins σ H' sI ∧ (∀ b o, sI.heap.get? b = some o → b ∉ frs X.stack → B.get? b = some o) ∧ sI.heap.UpToSlots s'.heap ∧
      HandSPX.FlyingZ B X.stack a (Zc cls d) s'.heap ∧ H' a = none ∧ s'.os = sI.os ∧ AllBare s'.gens ∧ E cls d H' := by
  obtain ⟨a, B, H', cls, d, hu, fl, hok, ub, na, os, ag, hE⟩ := c
  obtain ⟨G, g1, g2⟩ := restrict s'.heap fun b => (B.get? b).isSome || decide (b ∈ frs X.stack)
  have st : B.StaysIn s'.heap := fl.1
  have inB : ∀ b o, B.get? b = some o → G.get? b = some o := fun b o e => (g1 b (by simp [e])).trans (st b o e)
  have inF : ∀ b, b ∈ frs X.stack → G.get? b = s'.heap.get? b := fun b hb => g1 b (by simp [hb])
  have back : ∀ b o, G.get? b = some o → s'.heap.get? b = some o ∧ ((B.get? b).isSome = true ∨ b ∈ frs X.stack) := fun b o e => by
    cases q : ((B.get? b).isSome || decide (b ∈ frs X.stack)) with
    | false => rw [g2 b q] at e; cases e
    | true => exact ⟨(g1 b q).symm.trans e, by simpa [Bool.or_eq_true] using q⟩
  refine ⟨a, B, { s with heap := G, gens := s'.gens, drawn := s'.drawn, toks := s'.toks }, H', cls, d, hu, ?_, fun b o e hb => ?_, Heap.UpToSlots.of_keeps fun b o e => (back b o e).1, fl, na, os, ag, hE⟩
  · refine I.call (ch := []) ⟨fun b o e n hb _ => inB b o (ub.keep b o e n hb), fun b o e n hb _ => ?_, fun b o e n _ => ub.free b o e n, fun b o e _ => ?_, ub.tups, ub.frzs, ub.tbls⟩ (hok.kept inB) ag fun _ z => nomatch z
    · obtain ⟨sl, q⟩ := ub.slot b o e hb
      exact ⟨sl, (inF b hb).trans q⟩
    · by_cases hb : b ∈ frs X.stack
      · obtain ⟨sl, q⟩ := ub.slot b o e hb
        exact ⟨_, (inF b hb).trans q⟩
      · obtain ⟨o', q⟩ := ub.there b o e hb
        exact ⟨o', inB b o' q⟩
  · obtain ⟨e', h⟩ := back b o e
    rcases h with h | h
    · obtain ⟨o', q⟩ := Option.isSome_iff_exists.mp h
      have z := (st b o' q).symm.trans e'
      cases z
      exact q
    · exact absurd h hb
theorem Tk.px {X : Cx} {E : XK} (t : Tk X E) : Passes (L2.CX X.prog X.w) X E := fun pins σ H s e s' I c => by
  obtain ⟨_, _, Lf, _, _, hf⟩ := t.fr
  obtain ⟨a, B, sI, H', cls, d, rfl, J, nb, up, fl, na, os, ag, hE⟩ := of_call I c
  exact t.take Lf a B sI pins σ H' cls d s' hf J nb up (.inr (.inl fl)) na os ag hE

/-- a comprehension's block -/
abbrev blkX (X : Cx) (s : Shared) (H : Hp) (sc : Scope) (ce : PySem.Env) (fp : List Addr) (xe : Value → Shared → Prop) : Cx := { X.blk s H sc ce fp with xe := xe }
theorem blk_wish {X : Cx} {s : Shared} {H : Hp} {sc : Scope} {ce : PySem.Env} {fp : List Addr} {xe : Value → Shared → Prop} {pins : List (Addr × Obj)} {σ : L2.St} {H' : Hp} {s' : Shared} (I : Inv (X.blk s H sc ce fp) pins σ H' s') : Inv (blkX X s H sc ce fp xe) pins σ H' s' := I.wish xe
section
variable {X : Cx} {E : XK} {pins : List (Addr × Obj)} {σ : L2.St} {H3 : Hp} {s3 : Shared} {sc : Scope} {ce : PySem.Env} {fp : List Addr} {use : Option (Value → Sem Unit)} {Qf : Value → Shared → Prop} {acc : Value}
/-- what is raised in the block leaves the comprehension -/
theorem tk_blk (t : Tk X E) (I3 : Inv X pins σ H3 s3) (hfp : ∀ b ∈ fp, FpOk X pins H3 b) (hce : ce.frame = X.env.frame) (hC : ce.locals = s3.heap.objs.size) :
    Tk (blkX X s3 H3 sc ce fp (notedBy (model X.prog X.w) X.A ce fun e s' => cPost (model X.prog X.w) X.A X.xe use Qf acc ce (.error e) s')) E := by
  obtain ⟨e0, o0, Lf, hst, h0, hf⟩ := t.fr
  refine ⟨⟨e0, o0, Lf, hst, h0, hce.trans hf⟩, fun Lf' a B sI pins' σ' H cls d s' hL I nb up sky na os ag hE => ?_⟩
  have hL : ce.frame = some Lf' := hL
  rw [hce, hf] at hL
  cases hL
  have hfr : X.A.frames = some (e0 :: o0) := by rw [I3.ok.frames, hst]
  have sky : Sky B (e0 :: o0) a (Zc cls d) Lf s'.heap := by rw [← hst]; exact sky
  have nb : ∀ b o, sI.heap.get? b = some o → b ∉ frs X.stack → B.get? b = some o := nb
  -- the block's own dict
  have cnf : ce.locals ∉ frs X.stack := fun hm => by
    obtain ⟨_, o, ho, _⟩ := I3.stack.mem hm
    have := Heap.lt_size ho
    rw [hC] at this
    exact Nat.lt_irrefl _ this
  obtain ⟨m, hnI, _⟩ := I.loc
  have hnI : sI.heap.Ns ce.locals m := hnI
  have hCn : H ce.locals = none := I.free
  show wpAny _ X.A (noteFrame (.ref a) ce) _ _ s'
  rw [noteFrame_same (b := e0) (by rw [hce, hf, h0])]
  have go : ∀ h2, HandSPX.HeldZ B (e0 :: o0) a (Zc cls d) Lf h2 → s'.heap.UpToSlots h2 → cPost (model X.prog X.w) X.A X.xe use Qf acc ce (.error (.ref a)) { s' with heap := h2 } := fun h2 held up2 => by
    obtain ⟨bs, ba, ff, oe, vs, T, oT, ts, g1, gz, g3, g4, gT, gTe, g5, g6, g7⟩ := id held
    obtain ⟨oC, es, ep, hoC, hdC, hrC⟩ := hnI
    have hCB : B.get? ce.locals = some oC := nb _ _ hoC cnf
    have hC2 : h2.get? ce.locals = some oC := bs _ _ hCB
    have haC : a ≠ ce.locals := fun z => by rw [z, hCB] at ba; cases ba
    have hTC : T ≠ ce.locals := fun z => by rw [z, hCB] at gT; cases gT
    have fin : ∀ h3, Heap.SameBut ce.locals h2 h3 → wpAny (model X.prog X.w) X.A (passOn "comprehension.variables-let-go" (.ref a) ce : Sem Value) (fun _ _ => False) X.xe { s' with heap := h3 } := fun h3 sb => by
      obtain ⟨B', b1, b2⟩ := restrict B fun b => decide (b ≠ ce.locals)
      have b1 : ∀ b, b ≠ ce.locals → B'.get? b = B.get? b := fun b hb => b1 b (decide_eq_true hb)
      have b2 : B'.get? ce.locals = none := b2 _ (by simp)
      have toB : ∀ b o, B'.get? b = some o → B.get? b = some o ∧ b ≠ ce.locals := fun b o e => by
        by_cases hb : b = ce.locals
        · rw [hb, b2] at e; cases e
        · exact ⟨(b1 b hb).symm.trans e, hb⟩
      have noB : ∀ b, B.get? b = none → B'.get? b = none := fun b e => by
        by_cases hb : b = ce.locals
        · rw [hb]; exact b2
        · rw [b1 b hb]; exact e
      have k3 : ∀ b o, b ≠ ce.locals → h2.get? b = some o → h3.get? b = some o := fun b o hb e => (sb.2 b hb).trans e
      have ff3 : h3.FunFrames B' (e0 :: o0) := by
        have key : ∀ l : List PySem.Env, (∀ L ∈ frs l, L ≠ ce.locals) → h2.FunFrames B l → h3.FunFrames B' l := by
          intro l
          induction l with
          | nil => intro _ _; trivial
          | cons e r ih =>
            intro hn hl
            obtain ⟨hk, ⟨L, o, hfL, hnL, hoL, hdL⟩, hr⟩ := hl
            have hLm : L ∈ frs (e :: r) := List.mem_filterMap.mpr ⟨e, List.mem_cons_self, hfL⟩
            exact ⟨hk, ⟨L, o, hfL, noB L hnL, k3 L o (hn L hLm) hoL, hdL⟩, ih (fun L hL => hn L (by
              obtain ⟨e', he', q⟩ := List.mem_filterMap.mp hL
              exact List.mem_filterMap.mpr ⟨e', List.mem_cons_of_mem _ he', q⟩)) hr⟩
        exact key _ (fun L hL z => cnf (by rw [hst, ← z]; exact hL)) ff
      have held3 : HandSPX.HeldZ B' (e0 :: o0) a (Zc cls d) Lf h3 :=
        ⟨fun b o e => k3 b o (toB b o e).2 (bs b o (toB b o e).1), noB a ba, ff3, oe, vs, T, oT, ts, k3 a oe haC g1, gz, g3, g4, noB T gT, gTe, k3 T oT hTC g5, g6, g7⟩
      unfold PySem.passOn
      refine wpAny_bind (wpAny_field (k3 a oe haC g1) g3 g4 ?_)
      rw [if_neg (show ¬ ((Value.ref T == Value.none) = true) from by simp)]
      have last : wpAny (model X.prog X.w) X.A (setFlight (.ref a) ce.frame) (fun _ s4 => wpAny (model X.prog X.w) X.A (throw (.ref a) : Sem Value) (fun _ _ => False) X.xe s4) X.xe { s' with heap := h3 } := by
        rw [hce, hf]
        refine HandSPX.setFlight_onZ held3 fun h4 held4 up4 => wpAny_throw ?_
        obtain ⟨G, c1, c2⟩ := restrict sI.heap fun b => decide (b ≠ ce.locals)
        have c1 : ∀ b, b ≠ ce.locals → G.get? b = sI.heap.get? b := fun b hb => c1 b (decide_eq_true hb)
        have c2 : G.get? ce.locals = none := c2 _ (by simp)
        have toI : ∀ b o, G.get? b = some o → sI.heap.get? b = some o ∧ b ≠ ce.locals := fun b o e => by
          by_cases hb : b = ce.locals
          · rw [hb, c2] at e; cases e
          · exact ⟨(c1 b hb).symm.trans e, hb⟩
        have old : ∀ b o, s3.heap.get? b = some o → b ≠ ce.locals := fun b o e z => by
          have := Heap.lt_size e
          rw [z, hC] at this
          exact Nat.lt_irrefl _ this
        have ub : Un (frs X.stack) fp H3 H s3.heap sI.heap := I.base
        have un : Un (frs X.stack) fp H3 H s3.heap G := ⟨fun b o e n h1 h2 => (c1 b (old b o e)).trans (ub.keep b o e n h1 h2), fun b o e n h1 h2 => by
            obtain ⟨sl, q⟩ := ub.slot b o e n h1 h2
            exact ⟨sl, (c1 b (old b o e)).trans q⟩, ub.free, fun b o e h2 => by
            obtain ⟨o', q⟩ := ub.there b o e h2
            exact ⟨o', (c1 b (old b o e)).trans q⟩, ub.tups, ub.frzs, ub.tbls⟩
        have hokG : HOk X.prog X.w H G := fun b o q => (I.hok b o q).stay (fun c u hc r => (c1 c fun z => by
          rw [z] at hc
          rcases hc with hc | hc
          · rw [← hc, hCn] at q; cases q
          · rw [hCn] at hc; cases hc).trans r) (fun _ r => r) fun _ _ r => r
        have os3 : sI.os = s3.os := I.os
        have J : Inv X pins σ H { sI with heap := G } := I3.call' (ch := fp) (s' := { sI with heap := G }) os3 un hokG I.bare fun b hb => ⟨(hfp b hb).2.2.2.1, (hfp b hb).2.1, (hfp b hb).2.2.2.2.1, (hfp b hb).2.2.2.2.2⟩
        refine t.take Lf a B' { sI with heap := G } pins σ H cls d _ hf J (fun b o e hb => ?_) (fun b o e hd => ?_) (.inr (.inr (by rw [hst]; exact held4))) na os ag hE
        · obtain ⟨e1, e2⟩ := toI b o e
          exact (b1 b e2).trans (nb b o e1 hb)
        · obtain ⟨e1, e2⟩ := toI b o e
          obtain ⟨sl, q⟩ := (up.trans up2) b o e1 hd
          obtain ⟨sl2, q2⟩ := up4 b { o with slots := sl } (k3 b { o with slots := sl } e2 q) hd
          exact ⟨sl2, q2⟩
      first
        | exact wpAny_bind (wpAny_pure (wpAny_bind last))
        | exact wpAny_bind last
    cases use <;> exact ⟨m, ⟨oC, es, ep, hC2, hdC, hrC⟩, fin⟩
  rcases sky with ⟨hB, hn, hl, oe, vs, he, hz, hd, h1⟩ | fl | hd
  · exact HandSPX.look_newZ Zc.steady hfr hl h0 he hB hn hd h1 hz go
  · exact HandSPX.looks_onZ Zc.steady hfr h0 fl go
  · exact HandSPX.againZ h0 hd.2.2.2 (go _ hd (Heap.UpToSlots.refl _))
end
end UH

set_option maxRecDepth 100000
set_option maxHeartbeats 4000000
namespace UH
open PySem PySem.Spec PyProof.Rows L2

section
variable {X : Cx} {E : XK}
/-- [elt for tg in iter if ..], what the block raises goes out -/
theorem lc_g {pins : List (Addr × Obj)} {s : Shared} {σ : L2.St} {H : Hp} {Q : VK} {elt tg iter : Expr} {ifs : List Expr} {sc : Scope} {own : List (Str × Nat)} {pos pos' : Pos} {wi : TI} {g : TG} {tt : TT} {te : TE} {use : Option (Value → Sem Unit)} {Qf : Value → Shared → Prop}
    (hc : X.calm = true) (hN : X.N.Nodup) (tk : Tk X E) (I : Inv X pins σ H s) (hi : PI X tg iter wi) (ok : BlkOk X.N X.env.scope sc own)
    (hg : ∀ (s : Shared) (H : Hp) (C : Addr) (cl : List (Str × Addr)) (fp : List Addr) (xe : Value → Shared → Prop), Tk (blkX X s H sc (compEnvC sc cl C X.env) fp xe) E → PG (blkX X s H sc (compEnvC sc cl C X.env) fp xe) tg g)
    (ht : ∀ (s : Shared) (H : Hp) (C : Addr) (cl : List (Str × Addr)) (fp : List Addr) (xe : Value → Shared → Prop), Tk (blkX X s H sc (compEnvC sc cl C X.env) fp xe) E → PTs (blkX X s H sc (compEnvC sc cl C X.env) fp xe) ifs tt)
    (he : ∀ (s : Shared) (H : Hp) (C : Addr) (cl : List (Str × Addr)) (fp : List Addr) (xe : Value → Shared → Prop), Tk (blkX X s H sc (compEnvC sc cl C X.env) fp xe) E → PE (blkX X s H sc (compEnvC sc cl C X.env) fp xe) elt te) (hs : ∀ x, foldedSetIterable iter X.env x = pure x)
    (h : tLc wi g tt te (own.map (·.2)) σ H Q)
    (hRR : ∀ D C s' m H', Inv X pins σ H' s' → Q (.ref D) H' → s'.heap.Ns C m → FpOk X pins H' C → match use with
      | none => ∃ m, s'.heap.Ns C m ∧ ∀ h', Heap.SameBut C s'.heap h' → Qf (.ref D) { s' with heap := h' }
      | some u => wpAny (model X.prog X.w) X.A (u (.ref D)) (fun _ s2 => ∃ m, s2.heap.Ns C m ∧ ∀ h', Heap.SameBut C s2.heap h' → Qf .none { s2 with heap := h' }) X.xe s') :
    wpAny (model X.prog X.w) X.A (comprehension (.ListComp elt [⟨tg, iter, ifs, 0⟩] sc pos) sc X.env pos' (newList []) false (eval iter X.env) use) Qf X.xe s := by
  have hfree : ∀ y ∈ sc.names, y.2 = .free → ∃ c, X.env.cells.lookup y.1 = some c := fun y hy e => (ok.free y hy e).elim (fun k => I.ok.has _ (.inl k)) fun k => I.ok.has _ (.inr k)
  refine wp_comp (use := use) rfl hs (closure_ok hfree) ok.kind (fun y hy e => by rw [ok.uniq y hy, e]) (thn (hi.run pins s σ H _ I h) fun xv s1 hx => thn hx fun itv s2 h2 => ?_)
  obtain ⟨it, fp, tn, J, H2, e, I2, T, st2, f2, q⟩ := h2
  subst e
  refine wpAny_newObj_type (newEnv_comp ?_) (by show 0 ≤ sizeLine; decide)
  -- the new list stands at N0
  generalize hD : s2.heap.objs.size = N0
  obtain ⟨W, ⟨m0, w0⟩, turn⟩ := q N0 (I2.hok.fresh (Nat.le_of_eq hD))
  generalize hs3 : ({ s2 with heap := s2.heap.push { cls := .type "list", data := .seq ([] : List Value).toArray } } : Shared) = s3
  have e3 : s3.heap = s2.heap.push { cls := .type "list", data := .seq ([] : List Value).toArray } := by rw [← hs3]
  have I3 : Inv X pins σ (upd H2 N0 (.lst [])) s3 := by
    rw [← hs3]
    refine I2.laid (t' := s2.toks) (fun b o q => Heap.get?_push_of_some _ q) (Nat.le_of_eq hD) ⟨Nat.zero_le _, [], 0, .nil, ?_⟩
    rw [← hD]
    exact Heap.get?_push_size _ rfl
  have small : ∀ b ∈ fp, b < s2.heap.objs.size := fun b hb => by
    obtain ⟨o, e, _⟩ := T.obj _ _ st2 b hb
    exact Heap.lt_size e
  have f3 : ∀ b ∈ fp, FpOk X pins (upd H2 N0 (.lst [])) b ∧ b < s3.heap.objs.size := fun b hb => by
    have lt := small b hb
    exact ⟨⟨by rw [upd_ne (by rw [← hD]; exact Nat.ne_of_lt lt)]; exact (f2 b hb).1, (f2 b hb).2⟩, by rw [e3, Heap.size_push]; exact Nat.lt_succ_of_lt lt⟩
  have st3 : tn 0 s3.heap := T.keep _ _ _ st2 fun b _ o q => by rw [e3]; exact Heap.get?_push_of_some _ q
  have I4 := block_start I3 ok hN f3
  generalize hcl : cellsFrom (s3.heap.objs.size + 1) sc.names (cloFrom X.env.cells sc.names []) = cl at I4
  generalize hxe : notedBy (model X.prog X.w) X.A (compEnvC sc cl s3.heap.objs.size X.env) (fun e s' => cPost (model X.prog X.w) X.A X.xe use Qf (.ref N0) (compEnvC sc cl s3.heap.objs.size X.env) (.error e) s') = xe
  have tkB : Tk (blkX X s3 (upd H2 N0 (.lst [])) sc (compEnvC sc cl s3.heap.objs.size X.env) fp xe) E := by
    rw [← hxe]
    exact tk_blk tk I3 (fun b hb => (f3 b hb).1) rfl rfl
  have pg := hg s3 _ s3.heap.objs.size cl fp xe tkB
  have pt := ht s3 _ s3.heap.objs.size cl fp xe tkB
  have pe := he s3 _ s3.heap.objs.size cl fp xe tkB
  clear tkB
  rw [hs3] at *
  show codeAny _ _ (.compStart (.ListComp elt [⟨tg, iter, ifs, 0⟩] sc pos) 0 (.ref it) (.ref N0) (compEnvC sc cl s3.heap.objs.size X.env))
    (cPost (model X.prog X.w) X.A X.xe use Qf (.ref N0) (compEnvC sc cl s3.heap.objs.size X.env)) { s3 with heap := pushCells (s3.heap.push { cls := .type "dict", data := .dict #[] }) sc.names }
  have nfp : ∀ b ∈ fp, (upd H2 N0 (.lst [])) b = none := fun b hb => (f3 b hb).1.1
  generalize hce : compEnvC sc cl s3.heap.objs.size X.env = ce at I4 pg pt pe hxe ⊢
  have cL : ce.locals = s3.heap.objs.size := by subst hce; rfl
  generalize hH3 : upd H2 N0 (.lst []) = H3 at I3 I4 pg pt pe w0 nfp f3
  generalize hs4 : ({ s3 with heap := pushCells (s3.heap.push { cls := .type "dict", data := .dict #[] }) sc.names } : Shared) = s4 at I4 ⊢
  have I4 : Inv (blkX X s3 H3 sc ce fp xe) [] (wipe σ (own.map (·.2))) H3 s4 := blk_wish I4
  have st4 : tn 0 s4.heap := T.keep _ _ _ st3 fun b _ o q => by rw [← hs4]; exact pushCells_keeps _ _ _ _ (Heap.get?_push_of_some _ q)
  have stat : ∀ {σ' : L2.St} {H' : Hp} {s' : Shared}, Inv (blkX X s3 H3 sc ce fp xe) [] σ' H' s' → (∀ b ∈ fp, H' b = none) → ∀ b ∈ fp, FpOk (blkX X s3 H3 sc ce fp xe) [] H' b := fun {σ' H' s'} I' hn b hb =>
    ⟨hn b hb, (I'.ok.exf b hb).1, I'.ok.exfs b hb, .inl hb, fun x c e => (I'.ok.exf b hb).2 x c e, fun p hp => absurd (show p ∈ ([] : List (Addr × Obj)) ++ [] from hp) (by simp)⟩
  have loop : codeAny (model X.prog X.w) X.A (.compLoop (.ListComp elt [⟨tg, iter, ifs, 0⟩] sc pos) 0 (.ref it) (.ref N0) ce) (cPost (model X.prog X.w) X.A X.xe use Qf (.ref N0) ce) s4 := by
    refine compLoop_any (fun n s' => ∃ i H', Inv (blkX X s3 H3 sc ce fp xe) [] (wipe σ (own.map (·.2))) H' s' ∧ tn i s'.heap ∧ (∀ b ∈ fp, H' b = none) ∧ W i n H') ?_ m0 ⟨0, H3, I4, st4, nfp, w0⟩
    rintro n s5 ⟨i, H5, I5, st5, n5, w5⟩
    rcases turn i n H5 w5 with ⟨stop, qq⟩ | ⟨go, Nx, hNx, step⟩
    · refine thnF (T.done (blkX X s3 H3 sc ce fp xe) rfl rfl rfl hc i [] s5 _ H5 (fun _ _ => False) I5 (stat I5 n5) st5 stop) fun r s6 ⟨hr, I6⟩ => ?_
      subst hr
      have I7 : Inv X pins σ H5 s6 := I3.call' (ch := fp) I6.os I6.base I6.hok I6.bare fun b hb => ⟨(f3 b hb).1.2.2.2.1, (f3 b hb).1.2.1, (f3 b hb).1.2.2.2.2.1, (f3 b hb).1.2.2.2.2.2⟩
      have nC : H5 s3.heap.objs.size = none := by
        have z : H5 ce.locals = none := I6.free
        rw [cL] at z
        exact z
      obtain ⟨m, hn, _⟩ := I6.loc
      have hn : s6.heap.Ns ce.locals m := hn
      have rr := hRR N0 ce.locals s6 m H5 I7 qq hn (by rw [cL]; exact I3.fpOk (Nat.le_refl _) nC)
      show cPost _ _ _ use Qf (.ref N0) ce (.ok .next) s6
      unfold cPost
      cases use <;> exact rr
    · refine thnF (T.item (blkX X s3 H3 sc ce fp xe) rfl rfl rfl hc i [] s5 _ H5 (fun _ _ => False) I5 (stat I5 n5) st5 go) fun r s6 ⟨u, hr, h6⟩ => ?_
      subst hr
      refine thnF h6 fun _ s7 ⟨x, H7, I7, r7, y7, st7, n7⟩ => ?_
      have I7' := I7.pinned (stat I7 n7) (T.obj _ _ st7)
      have toX : ∀ {α : Type} {t : Sem α} {Q' : α → Shared → Prop} {s : Shared}, wpAny (model X.prog X.w) X.A t Q' xe s →
          wpAny (model X.prog X.w) X.A t Q' (notedBy (model X.prog X.w) X.A ce fun e s' => cPost (model X.prog X.w) X.A X.xe use Qf (.ref N0) ce (.error e) s') s := fun {α t Q' s} z => by rw [hxe]; exact z
      refine toX (thn (pg.run _ s7 _ H7 x u _ I7' r7 (step x H7 y7)) fun _ s8 ⟨σ8, H8, I8, hw8, q8⟩ => ?_)
      refine toX (thn (pt.run _ s8 σ8 H8 _ I8 q8) fun b s9 ⟨H9, I9, q9⟩ => ?_)
      have fin : ∀ {s' : Shared} {H' : Hp}, Inv (blkX X s3 H3 sc ce fp xe) ([] ++ pinsAt fp s7.heap) σ8 H' s' → Nx H' → ∃ m, m < n ∧ ∃ i H', Inv (blkX X s3 H3 sc ce fp xe) [] (wipe σ (own.map (·.2))) H' s' ∧ tn i s'.heap ∧ (∀ b ∈ fp, H' b = none) ∧ W i m H' := fun {s' H'} I' nx => by
        obtain ⟨m', hm, w'⟩ := hNx H' nx
        have pin' : ∀ b ∈ fp, ∀ o, s7.heap.get? b = some o → s'.heap.get? b = some o ∧ H' b = none := fun b hb o e =>
          let z := I'.pin (b, o) (List.mem_append_right _ (List.mem_append_right _ (mem_pinsAt hb e)))
          ⟨z.1, z.2.1⟩
        refine ⟨m', hm, i + 1, H', (I'.unpinned (pins := [])).weak (by rw [← hw8, wipe_length]) (fun j v e => ?_), T.keep _ _ _ st7 fun b hb o e => (pin' b hb o e).1, fun b hb => ?_, w'⟩
        · rw [← hw8] at e
          exact (wipe_some e).1
        · obtain ⟨o, e, _⟩ := T.obj _ _ st7 b hb
          exact (pin' b hb o e).2
      cases b with
      | false =>
        simp only [Bool.false_eq_true, if_false] at q9 ⊢
        exact fin I9 q9
      | true =>
        simp only [if_true] at q9 ⊢
        refine toX (thn (pe.run _ s9 σ8 H9 _ I9 q9) fun z s10 ⟨yv, H10, I10, r10, acc, hD10, hz10, nx⟩ => ?_)
        exact app_ok (X := blkX X s3 H3 sc ce fp xe) I10 hD10 hz10 r10 fun s11 I11 => fin I11 nx
  exact codeAny_compStart_list loop (T.self X.A 0 _ _ _ st4 loop)
/-- .. as a value -/
theorem pg_lc {elt tg iter : Expr} {ifs : List Expr} {sc : Scope} {own : List (Str × Nat)} {pos : Pos} {wi : TI} {g : TG} {tt : TT} {te : TE} (hc : X.calm = true) (hN : X.N.Nodup) (tk : Tk X E) (hi : PI X tg iter wi) (ok : BlkOk X.N X.env.scope sc own)
    (hg : ∀ (s : Shared) (H : Hp) (C : Addr) (cl : List (Str × Addr)) (fp : List Addr) (xe : Value → Shared → Prop), Tk (blkX X s H sc (compEnvC sc cl C X.env) fp xe) E → PG (blkX X s H sc (compEnvC sc cl C X.env) fp xe) tg g)
    (ht : ∀ (s : Shared) (H : Hp) (C : Addr) (cl : List (Str × Addr)) (fp : List Addr) (xe : Value → Shared → Prop), Tk (blkX X s H sc (compEnvC sc cl C X.env) fp xe) E → PTs (blkX X s H sc (compEnvC sc cl C X.env) fp xe) ifs tt)
    (he : ∀ (s : Shared) (H : Hp) (C : Addr) (cl : List (Str × Addr)) (fp : List Addr) (xe : Value → Shared → Prop), Tk (blkX X s H sc (compEnvC sc cl C X.env) fp xe) E → PE (blkX X s H sc (compEnvC sc cl C X.env) fp xe) elt te)
    (hs : ∀ x, foldedSetIterable iter X.env x = pure x := by intro _; rfl) :
    PE X (.ListComp elt [⟨tg, iter, ifs, 0⟩] sc pos) (tLc wi g tt te (own.map (·.2))) := by
  refine ⟨fun pins s σ H Q I h => ?_⟩
  rw [eval_ListComp]
  refine lc_g hc hN tk I hi ok hg ht he hs h fun D C s' m H' I' q hn f => ⟨m, hn, fun h'' sb => ?_⟩
  obtain ⟨f0, f1, f2, f3, f4, f5⟩ := f
  exact ⟨.ref D, H', I'.turned (t' := s'.toks) (fun b o hb e => (sb.2 b hb).trans e) f0 f1 f3 f4 f5, rfl, q⟩
/-- name = [..] on one line, the name a local -/
theorem pg_setLc {i : Nat} {y : Str} {py : Pos} {elt tg iter : Expr} {ifs : List Expr} {sc : Scope} {own : List (Str × Nat)} {pos spos : Pos} {wi : TI} {g : TG} {tt : TT} {te : TE} (hc : X.calm = true) (hN : X.N.Nodup) (tk : Tk X E) (hy : X.N[i]? = some y) (hyl : X.env.scope.names.lookup y = some .local)
    (hsw : swapsWith (.ListComp elt [⟨tg, iter, ifs, 0⟩] sc pos) (some (.Name y py)) spos.line X.env = pure true) (hi : PI X tg iter wi) (ok : BlkOk X.N X.env.scope sc own)
    (hg : ∀ (s : Shared) (H : Hp) (C : Addr) (cl : List (Str × Addr)) (fp : List Addr) (xe : Value → Shared → Prop), Tk (blkX X s H sc (compEnvC sc cl C X.env) fp xe) E → PG (blkX X s H sc (compEnvC sc cl C X.env) fp xe) tg g)
    (ht : ∀ (s : Shared) (H : Hp) (C : Addr) (cl : List (Str × Addr)) (fp : List Addr) (xe : Value → Shared → Prop), Tk (blkX X s H sc (compEnvC sc cl C X.env) fp xe) E → PTs (blkX X s H sc (compEnvC sc cl C X.env) fp xe) ifs tt)
    (he : ∀ (s : Shared) (H : Hp) (C : Addr) (cl : List (Str × Addr)) (fp : List Addr) (xe : Value → Shared → Prop), Tk (blkX X s H sc (compEnvC sc cl C X.env) fp xe) E → PE (blkX X s H sc (compEnvC sc cl C X.env) fp xe) elt te)
    (hs : ∀ x, foldedSetIterable iter X.env x = pure x := by intro _; rfl) :
    PS X (.Assign [.Name y py] (.ListComp elt [⟨tg, iter, ifs, 0⟩] sc pos) spos) (tAsg (tLc wi g tt te (own.map (·.2))) (gName i)) := by
  refine ⟨fun pins s σ H D I h => ?_⟩
  rw [exec_Assign_Name_used _ _ _ _ hsw]
  refine wpAny_bind (wpAny_standAt (wpAny_bind ?_))
  show wpAny _ X.A (do let _ ← comprehension (.ListComp elt [⟨tg, iter, ifs, 0⟩] sc pos) sc X.env (firstIterPos [⟨tg, iter, ifs, 0⟩] pos) (newList []) false (eval iter X.env) (some (assign (.Name y py) X.env))) _ _ s
  have h : tLc wi g tt te (own.map (·.2)) σ H (fun x H1 => gName i x σ H1 D.nx) := h
  refine wpAny_bind (thn (lc_g (Qf := fun _ s' => SP X pins D .next s') hc hN tk I hi ok hg ht he hs h fun L C s' m H' I' q hn f => ?_) fun _ s' hq => wpAny_pure (wpAny_pure hq))
  show wpAny _ _ (assign (.Name y py) X.env (.ref L)) _ _ _
  refine wpAny_assign_Name (store_ok2 (v := V.ref L) I' hN hy (.inl hyl) rfl (fun s2 I2 ⟨a, sb, ha⟩ => ?_) (.inr hyl))
  obtain ⟨f0, f1, f2, f3, f4, f5⟩ := f
  have haC : C ≠ a := ha.elim (fun z => by rw [z]; exact f1) fun z e => f4 y a z e.symm
  exact ⟨m, hn.sameBut sb haC, fun h3 sb3 => ⟨_, H', I2.turned (t' := s2.toks) (fun b o hb e => (sb3.2 b hb).trans e) f0 f1 f3 f4 f5, q⟩⟩
end
end UH

set_option maxRecDepth 100000
set_option maxHeartbeats 4000000
namespace UH
open PySem PySem.Spec PyProof.Rows L2

/-! ### targets -/
abbrev Tgt := D → En → Option En
abbrev Tgts := List D → En → Option En
def tgN (i : Nat) : Tgt := fun d env => some (env.set i (.val d))
def tgNil : Tgts := fun ds env => match ds with
  | [] => some env
  | _ => none
def tgCons (t : Tgt) (u : Tgts) : Tgts := fun ds env => match ds with
  | d :: r => (t d env).bind fun env' => u r env'
  | [] => none
def tgT (n : Nat) (u : Tgts) : Tgt := fun d env => match d with
  | .tup ds => if ds.length = n then u ds env else none
  | _ => none
section
variable (P : Pr)
def tG (vs : List Nat) (t : Tgt) : TG := fun v σ H Q => ∃ L O B env s d, Rel P L O H B σ env s ∧ σ.length = env.length ∧ Dat P L O H d v ∧ ∃ env', t d env = some env' ∧ ∀ σ', Rel P L O H B σ' env' s → σ'.length = σ.length → (∀ i, i ∉ vs → σ'[i]? = σ[i]?) → Q σ' H
def tGs (vs : List Nat) (t : Tgts) : TGs := fun xs σ H Q => ∃ L O B env s ds, Rel P L O H B σ env s ∧ σ.length = env.length ∧ DatAll P L O H ds xs ∧ ∃ env', t ds env = some env' ∧ ∀ σ', Rel P L O H B σ' env' s → σ'.length = σ.length → (∀ i, i ∉ vs → σ'[i]? = σ[i]?) → Q σ' H
end
section
variable {X : Cx} {P : Pr}
theorem _root_.L2.PG.imp {e : Expr} {t t' : TG} (h : PG X e t) (f : ∀ v σ H Q, t' v σ H Q → t v σ H Q) : PG X e t' := ⟨fun pins s σ H v u Q I r q => h.run pins s σ H v u Q I r (f v σ H Q q)⟩
theorem _root_.L2.PGs.imp {e : List Expr} {t t' : TGs} (h : PGs X e t) (f : ∀ v σ H Q, t' v σ H Q → t v σ H Q) : PGs X e t' := ⟨fun pins s σ H v u Q I r q => h.run pins s σ H v u Q I r (f v σ H Q q)⟩
theorem g_name {vs : List Nat} (i : Nat) {x : Str} {pos : Pos} (hN : X.N.Nodup) (hx : Loc X.env.scope x) (hv : i ∈ vs := by decide) (hi : X.N[i]? = some x := by rfl) (hf : X.fn x = true ∨ X.env.scope.names.lookup x = some .local := by first | exact .inl rfl | exact .inr rfl) : PG X (.Name x pos) (tG P vs (tgN i)) :=
  (pg_name hN hi hx hf).imp fun v σ H Q ⟨L, O, B, env, s, d, rel, hl, hd, env', e, k⟩ => by
    cases e
    exact k _ (rel.setVal hl i hd) (by rw [List.length_set]) fun j hj => List.getElem?_set_ne fun (z : i = j) => hj (by rw [← z]; exact hv)
theorem gs_nil {vs : List Nat} : PGs X [] (tGs P vs tgNil) := pgs_nil.imp fun xs σ H Q ⟨L, O, B, env, s, ds, rel, hl, hd, env', e, k⟩ => by
  cases ds with
  | nil => cases e; exact ⟨hd, k σ rel rfl fun _ _ => rfl⟩
  | cons d r => cases e
theorem gs_cons {vs : List Nat} {e : Expr} {es : List Expr} {t : Tgt} {u : Tgts} (h1 : PG X e (tG P vs t)) (h2 : PGs X es (tGs P vs u)) (hs : (assignEach (e :: es) X.env).map (·.2) = assign e X.env :: (assignEach es X.env).map (·.2) := by rfl) : PGs X (e :: es) (tGs P vs (tgCons t u)) :=
  (pgs_cons h1 h2 hs).imp fun xs σ H Q ⟨L, O, B, env, s, ds, rel, hl, hd, env', e, k⟩ => by
    cases ds with
    | nil => cases e
    | cons d r =>
      obtain ⟨v, ws, e1, hv, hr⟩ := hd
      have e : (t d env).bind (fun env' => u r env') = some env' := e
      cases q : t d env with
      | none => rw [q] at e; cases e
      | some env1 =>
        rw [q] at e
        exact ⟨v, ws, e1, L, O, B, env, s, d, rel, hl, hv, env1, q, fun σ1 rel1 hl1 kp1 => ⟨L, O, B, env1, s, r, rel1, rel1.len, hr, env', e, fun σ2 rel2 hl2 kp2 => k σ2 rel2 (hl2.trans hl1) fun i hi => (kp2 i hi).trans (kp1 i hi)⟩⟩
theorem g_tup {vs : List Nat} {es : List Expr} {k : Nat} {pos : Pos} {u : Tgts} {n : Nat} (hK : X.K = P.K) (hc : X.calm = true) (h : PGs X es (tGs P vs u)) (hn : (assignEach es X.env).length = n := by rfl) (hst : (assignEach es X.env).findIdx? (·.1) = none := by rfl) : PG X (.Tuple es k pos) (tG P vs (tgT n u)) :=
  (pg_tup hc h hn hst).imp fun v σ H Q ⟨L, O, B, env, s, d, rel, hl, hd, env', e, k⟩ => by
    cases d with
    | tup ds =>
      have e : (if ds.length = n then u ds env else none) = some env' := e
      split at e
      · rename_i hz
        obtain ⟨a, ws, e1, q, z, r⟩ := hd.sqt
        exact ⟨a, ws, e1, by rw [hK]; exact q, by rw [← r.len]; exact hz, L, O, B, env, s, ds, rel, hl, r, env', e, k⟩
      · cases e
    | _ => cases e
/-- a, b = e, e a tuple -/
def msAsg (t : Tgt) (m : ME) : MS := fun env s => (m env s).bind fun d s => match t d env with
  | some env' => .ok (.next env') s
  | none => .bad
theorem s_asg {F : Frm} {E : XK} {vs : List Nat} {tg e : Expr} {m : ME} {t : Tgt} {pos : Pos} (he : PE X e (tE P E m)) (hg : PG X tg (tG P vs t)) (hs : swapsWithSole [tg] e pos.line X.env = pure false := by rfl) (hw : swappedStores [tg] e X.env = pure none := by rfl)
    (h1 : (assignEach [tg] X.env).map (·.2) = [assign tg X.env] := by rfl) : PS X (.Assign [tg] e pos) (tS P F E (msAsg t m)) :=
  (ps_asg he hg hs hw h1).imp fun D σ H ⟨env, s, ⟨L, O, rel, st, fr, hl, pn⟩, q⟩ => ⟨L, O, F.B, env, s, rel, (to_post rel st q).mono fun d s1 L1 H1 b1 t1 p1 v hv => by
    cases q : t d env with
    | none => rw [q] at p1; exact p1.elim
    | some env' =>
      rw [q] at p1
      exact ⟨L1, O, F.B, env, s1, d, rel.step b1 t1, hl, hv, env', q, fun σ' rel' hl' _ => p1 σ' H1 ⟨L1, O, rel', st.trans t1, fr, rel'.len, fun p hp => (pn p hp).step t1⟩⟩⟩
end

/-! ### what is walked -/
def SrcOk (P : Pr) (J : It) (pins : List (D × V)) (xs : List D) : Prop := ∀ (L : List Addr) (O : Addr → Prop) (H : Hp) (s : Bxs), Base P L O H s → (∀ p ∈ pins, WDat P L O H p.1 p.2) →
  (∀ i d, xs[i]? = some d → J.go i H ∧ ∀ x H', J.yld i H x H' → Same H H' ∧ Dat P L O H' d x) ∧ J.stop xs.length H
abbrev MI := MA
/-- the walked thing's data; strong: none of it is an owned list -/
def tI (st : Bool) (P : Pr) (E : XK) (m : MI) : TI := fun σ H R => ∃ L O B env s, Rel P L O H B σ env s ∧ Post P L O H E (m env s) fun xs _ L' H' => ∀ J pins, SrcOk P J pins xs → xs.length ≤ sizeLine →
  (∀ p ∈ pins, if st = true then Dat P L' O H' p.1 p.2 else WDat P L' O H' p.1 p.2) → R J H'
section
variable {X : Cx} {P : Pr} {E : XK}
def iSeq (K : PySem.W.Frag) (tl : TE) : TI := fun σ H R => tl σ H fun x H1 => (∃ a, x = .ref a ∧ (∃ xs, SqL K H1 a xs) ∧ R (Itl K a) H1) ∨ (∃ a, x = .ref a ∧ (∃ xs, SqT K H1 a xs) ∧ R (Itt K a) H1) ∨ ∃ z, x = .str z ∧ R (Its z) H1
theorem pi_seq {tg l : Expr} {tl : TE} (h : PE X l tl) : PI X tg l (iSeq X.K tl) := by
  refine ⟨fun pins s σ H R I q => thn (h.run pins s σ H _ I q) fun v s1 ⟨x, H1, I1, r1, q1⟩ => ?_⟩
  have one : ∀ b ∈ [s1.heap.objs.size], FpOk X pins H1 b := fun b hb => by
    have e : b = s1.heap.objs.size := by simpa using hb
    rw [e]; exact I1.fpOk (Nat.le_refl _) (I1.hok.fresh (Nat.le_refl _))
  rcases q1 with ⟨a, rfl, ⟨xs, hq⟩, q⟩ | ⟨a, rfl, ⟨xs, hq⟩, q⟩ | ⟨z, rfl, q⟩
  · cases r1
    obtain ⟨its, rv, p, hz⟩ := I1.list hq
    exact wpAny_pyIter_list p.isList ⟨s1.heap.objs.size, [s1.heap.objs.size], _, _, H1, rfl, I1.kept (t' := s1.toks) fun b o e => Heap.get?_push_of_some _ e, turn_list a _, ⟨_, Heap.get?_push_size _ rfl, rfl, rfl⟩, one, q⟩
  · cases r1
    obtain ⟨its, rv, p, hz⟩ := I1.tuple hq
    exact wpAny_pyIter_tuple (show s1.heap.IsTuple a its.toArray from p) ⟨s1.heap.objs.size, [s1.heap.objs.size], _, _, H1, rfl, I1.kept (t' := s1.toks) fun b o e => Heap.get?_push_of_some _ e, turn_tuple a _, ⟨_, Heap.get?_push_size _ rfl, rfl, rfl⟩, one, q⟩
  · obtain ⟨t, rfl⟩ := r1
    cases ha : z.cps.all (· < 128)
    · exact wpAny_pyIter_wide ha (pi_one (tk := s1.toks) I1 _ (turn_str _ z t "str_iterator" (.inr rfl)) ⟨_, Heap.get?_push_size _ rfl, rfl, rfl⟩ q)
    · exact wpAny_pyIter_ascii ha (pi_one (tk := s1.toks) I1 _ (turn_str _ z t "str_ascii_iterator" (.inl rfl)) ⟨_, Heap.get?_push_size _ rfl, rfl, rfl⟩ q)
def signD (c : Nat) : D := .str ⟨#[c]⟩
def seqD : D → Option (List D)
  | .lst ds => some ds
  | .tup ds => some ds
  | .str z => some (z.cps.toList.map signD)
  | _ => none
def miSeq (m : ME) : MI := fun env s => (m env s).bind fun d s => R.ofO (seqD d) s
theorem src_lst (ds : List D) (v : V) : v = .ref a → SrcOk P (Itl P.K a) [(.lst ds, v)] ds := fun ev L O H s b h => by
  obtain ⟨a', vs, e, q, z, r⟩ := WDat.sql (h _ List.mem_cons_self)
  have e : v = .ref a' := e
  rw [ev] at e; cases e
  refine ⟨fun i d hd => ?_, vs, q, by rw [r.len]; exact Nat.le_refl _⟩
  obtain ⟨u, hu, hdu⟩ := r.get i hd
  refine ⟨⟨vs, u, q, hu⟩, fun x H' y => ?_⟩
  obtain ⟨rfl, y⟩ := y
  have := y vs q
  rw [hu] at this; cases this
  exact ⟨Same.refl _, hdu⟩
theorem src_tup (ds : List D) (v : V) : v = .ref a → SrcOk P (Itt P.K a) [(.tup ds, v)] ds := fun ev L O H s b h => by
  obtain ⟨a', vs, e, q, z, r⟩ := Dat.sqt (h _ List.mem_cons_self)
  have e : v = .ref a' := e
  rw [ev] at e; cases e
  refine ⟨fun i d hd => ?_, vs, q, by rw [r.len]; exact Nat.le_refl _⟩
  obtain ⟨u, hu, hdu⟩ := r.get i hd
  refine ⟨⟨vs, u, q, hu⟩, fun x H' y => ?_⟩
  obtain ⟨rfl, y⟩ := y
  have := y vs q
  rw [hu] at this; cases this
  exact ⟨Same.refl _, hdu⟩
theorem src_str (z : Str) : SrcOk P (Its z) [(.str z, .str z)] (z.cps.toList.map signD) := fun L O H s b hh => by
  have h : sOk z := (show Dat P L O H (.str z) (.str z) from hh (.str z, .str z) List.mem_cons_self).2
  refine ⟨fun i d hd => ?_, by show z.cps.size ≤ _; simp⟩
  rw [List.getElem?_map] at hd
  cases q : z.cps.toList[i]? with
  | none => rw [q] at hd; cases hd
  | some c =>
    rw [q] at hd; cases hd
    have q' : z.cps[i]? = some c := by simpa using q
    refine ⟨(Array.getElem?_eq_some_iff.mp q').1, fun x H' y => ?_⟩
    obtain ⟨rfl, c', e1, rfl⟩ := y
    rw [q'] at e1; cases e1
    exact ⟨Same.refl _, rfl, sOk_sign (h.2 c (List.mem_of_getElem? q))⟩
theorem seq_src {L : List Addr} {O : Addr → Prop} {H : Hp} {d : D} {v : V} {xs : List D} {R : It → Hp → Prop} {st : Bool} (hw : WDat P L O H d v) (hs : st = true → Dat P L O H d v) (e : seqD d = some xs)
    (k : ∀ J pins, SrcOk P J pins xs → xs.length ≤ sizeLine → (∀ p ∈ pins, if st = true then Dat P L O H p.1 p.2 else WDat P L O H p.1 p.2) → R J H) :
    (∃ a, v = .ref a ∧ (∃ xs, SqL P.K H a xs) ∧ R (Itl P.K a) H) ∨ (∃ a, v = .ref a ∧ (∃ xs, SqT P.K H a xs) ∧ R (Itt P.K a) H) ∨ ∃ z, v = .str z ∧ R (Its z) H := by
  have pin : ∀ p ∈ [(d, v)], if st = true then Dat P L O H p.1 p.2 else WDat P L O H p.1 p.2 := fun p hp => by
    have : p = (d, v) := by simpa using hp
    subst this
    split
    · exact hs (by assumption)
    · exact hw
  cases d with
  | lst ds =>
    cases e
    obtain ⟨a, vs, e1, q, z, r⟩ := WDat.sql hw
    exact .inl ⟨a, e1, ⟨vs, q⟩, k _ _ (src_lst xs v e1) (by rw [r.len]; exact z) pin⟩
  | tup ds =>
    cases e
    obtain ⟨a, vs, e1, q, z, r⟩ := Dat.sqt hw
    exact .inr (.inl ⟨a, e1, ⟨vs, q⟩, k _ _ (src_tup xs v e1) (by rw [r.len]; exact z) pin⟩)
  | str z =>
    cases e
    have e1 := hw.1
    subst e1
    exact .inr (.inr ⟨z, rfl, k _ _ (src_str z) (by rw [List.length_map, Array.length_toList]; exact hw.2.1) pin⟩)
  | _ => cases e
theorem i_seqW {tg l : Expr} {m : ME} (hK : X.K = P.K) (h : PE X l (tW P E m)) : PI X tg l (tI false P E (miSeq m)) :=
  (pi_seq h).imp fun σ H R ⟨L, O, B, env, s, rel, p⟩ => ⟨L, O, B, env, s, rel, (Post.bind p).mono fun d s1 L1 H1 b1 t1 p1 v hv => by
    obtain ⟨xs, e, k⟩ := Post.ofO p1
    rw [hK]
    exact seq_src (st := false) hv (fun h => nomatch h) e (k L1 H1 b1 .refl)⟩
theorem i_seq {tg l : Expr} {m : ME} (hK : X.K = P.K) (h : PE X l (tE P E m)) : PI X tg l (tI true P E (miSeq m)) :=
  (pi_seq h).imp fun σ H R ⟨L, O, B, env, s, rel, p⟩ => ⟨L, O, B, env, s, rel, (Post.bind p).mono fun d s1 L1 H1 b1 t1 p1 v hv => by
    obtain ⟨xs, e, k⟩ := Post.ofO p1
    rw [hK]
    exact seq_src (st := true) hv.weak (fun _ => hv) e (k L1 H1 b1 .refl)⟩
/-- range(n) -/
def miRange (m : MA) : MI := fun env s => (m env s).bind fun ds s => match ds with
  | [.int n] => if -1000 ≤ n ∧ n ≤ 1000 then .ok ((List.range n.toNat).map fun (i : Nat) => .int (i : Int)) s else .bad
  | _ => .bad
theorem src_range (n : Nat) : SrcOk P (Itr 0 n) [] ((List.range n).map fun (i : Nat) => D.int (i : Int)) := fun L O H s b h => by
  refine ⟨fun i d hd => ?_, by show n ≤ _; simp⟩
  rw [List.getElem?_map] at hd
  cases q : (List.range n)[i]? with
  | none => rw [q] at hd; cases hd
  | some j =>
    rw [q] at hd; cases hd
    obtain ⟨h1, h2⟩ := List.getElem?_eq_some_iff.mp q
    rw [List.getElem_range] at h2
    subst h2
    rw [List.length_range] at h1
    refine ⟨h1, fun x H' y => ?_⟩
    obtain ⟨rfl, rfl⟩ := y
    exact ⟨Same.refl _, by show V.int ((0 : Int) + (i : Int)) = _; rw [Int.zero_add]⟩
theorem i_range {st : Bool} {tg a : Expr} {m : MA} {p pos : Pos} (hg : Gl X "range") (hm : X.mg "range" = none) (ha : PA X [a] (tAW P E m)) (hs : starEach [a] X.env = [(false, eval a X.env)] := by rfl) : PI X tg (.Call (.Name "range" p) [a] [] pos) (tI st P E (miRange m)) :=
  (pi_range1 hg hm ha hs).imp fun σ H R ⟨L, O, B, env, s, rel, p⟩ => ⟨L, O, B, env, s, rel, (Post.bind p).mono fun ds s1 L1 H1 b1 t1 p1 vs hvs => by
    split at p1
    · rename_i n
      split at p1
      · rename_i hn
        obtain ⟨v, rfl, hv⟩ := WDatAll.one hvs
        exact ⟨n, by rw [show v = _ from hv], by omega, by omega, p1 L1 H1 b1 .refl _ _ (src_range n.toNat) (by rw [List.length_map, List.length_range]; exact le1000 (by omega)) fun p hp => absurd hp (by simp)⟩
      · exact p1.elim
    · exact p1.elim⟩
end
end UH

set_option maxRecDepth 100000
set_option maxHeartbeats 4000000
namespace UH
open PySem PySem.Spec PyProof.Rows L2

def wipeE (env : En) : List Nat → En
  | [] => env
  | v :: vs => (wipeE env vs).set v .none
section
variable {P : Pr} {L L' : List Addr} {O O' B : Addr → Prop} {H H' : Hp} {s s' : Bxs} {σ : L2.St} {env : En} {E : XK}
theorem WDat.more (h : ∀ a, O' a → O a ∨ H a = none) {d : D} {v : V} (q : WDat P L O H d v) : WDat P L O' H d v := by
  cases d with
  | lst ds =>
    obtain ⟨a, vs, e, z, r, n, t⟩ := q
    exact ⟨a, vs, e, z, r, n, t.more h⟩
  | _ => exact Dat.more h q
theorem OwnAt.grow {a : Addr} {vs : List V} {ds : List D} (h : OwnAt P L O H a vs ds) (ho : ∀ a, O a → O' a) (hn : ∀ a, O' a → O a ∨ H a = none) (g : Same H H') : OwnAt P L O' H' a vs ds :=
  ⟨ho a h.1, g _ _ h.2.1, h.2.2.1, (h.2.2.2.more hn).step (.grow g)⟩
theorem Rel.newOwn (r : Rel P L O H B σ env s) {p : Addr} {o : HO} (hp : H p = none) : Rel P L (Ow O p) (upd H p o) B σ env s where
  base := r.base.newOwn hp
  slot := fun i sl e => by
    have q := r.slot i sl e
    cases sl with
    | none => trivial
    | val d => obtain ⟨v, e1, q⟩ := q; exact ⟨v, e1, (q.more (ow_new hp)).step (.new hp)⟩
    | own ds => obtain ⟨a, vs, e1, n, q⟩ := q; exact ⟨a, vs, e1, n, q.grow (fun a h => .inl h) (ow_new hp) (Same.upd hp)⟩
  inj := r.inj
  out := fun a h => .inl (r.out a h)
  len := r.len
theorem tabs_wr {T : List (Addr × Str)} {p : Addr} {vs : List V} {o : HO} (t : LamX.Tabs T H) (h : H p = some (.lst vs)) : LamX.Tabs T (upd H p o) := fun q hq => by
  obtain ⟨ps, h1, h2, h3⟩ := t q hq
  have n1 : q.1 ≠ p := fun z => by rw [z, h] at h1; cases h1
  refine ⟨ps, by rw [upd_ne n1]; exact h1, h2, fun pos cv hc => ?_⟩
  obtain ⟨c, e1, e2⟩ := h3 pos cv hc
  have n2 : c ≠ p := fun z => by
    rw [z, h] at e2
    have e3 := Option.some.inj e2
    unfold LamX.CodeO at e3
    cases e3
  exact ⟨c, e1, by rw [upd_ne n2]; exact e2⟩
/-- an owned list is changed -/
theorem Base.wr (b : Base P L O H s) {p : Addr} {vs : List V} {o : HO} (hp : O p) (hl : H p = some (.lst vs)) : Base P L O (upd H p o) s where
  len := b.len
  nd := b.nd
  box := fun n x a e q => by
    have ha : a ≠ p := fun z => b.dis a (List.mem_of_getElem? q) (z ▸ hp)
    have z := b.box n x a e q
    have fs : ∀ {ds : List (Str × D)} {vs : List (Str × V)}, DatFs P L O H ds vs → DatFs P L O (upd H p o) ds vs := by
      intro ds
      induction ds with
      | nil => exact fun h => h
      | cons x r ih => obtain ⟨k, d⟩ := x; exact fun ⟨v, w, e, h1, h2⟩ => ⟨v, w, e, h1.wr hp, ih h2⟩
    cases x with
    | lst ds => obtain ⟨vs, h1, h2, h3⟩ := z; exact ⟨vs, by rw [upd_ne ha]; exact h1, h2, h3.wr hp⟩
    | ins c f => obtain ⟨dx, vs, h1, h3⟩ := z; exact ⟨dx, vs, by rw [upd_ne ha]; exact h1, fs h3⟩
  dis := b.dis
  live := fun a h z => by
    by_cases e : a = p
    · rw [e, upd_same] at z; cases z
    · rw [upd_ne e] at z; exact b.live a h z
  tabs := tabs_wr b.tabs hl
theorem wipe_get {vs : List Nat} {i : Nat} {sl : Sl} : ∀ {vs : List Nat}, (wipeE env vs)[i]? = some sl → sl = .none ∨ (env[i]? = some sl ∧ i ∉ vs)
  | [], h => .inr ⟨h, by simp⟩
  | v :: vs, h => by
    rcases get_set h with ⟨_, e, _⟩ | ⟨n, h⟩
    · exact .inl e
    · rcases wipe_get (vs := vs) (i := i) (sl := sl) h with h | ⟨h1, h2⟩
      · exact .inl h
      · exact .inr ⟨h1, fun m => (List.mem_cons.mp m).elim n h2⟩
theorem wipe_keep {i : Nat} : ∀ {vs : List Nat}, i ∉ vs → (wipe σ vs)[i]? = σ[i]?
  | [], _ => rfl
  | v :: vs, h => by
    show ((wipe σ vs).set v none)[i]? = σ[i]?
    rw [List.getElem?_set_ne fun (z : v = i) => h (by rw [z]; exact List.mem_cons_self)]
    exact wipe_keep fun m => h (List.mem_cons_of_mem _ m)
theorem wipe_len : ∀ vs : List Nat, (wipeE env vs).length = env.length
  | [] => rfl
  | v :: vs => by show ((wipeE env vs).set v .none).length = _; rw [List.length_set, wipe_len vs]
theorem wipe_again {σ σ' : L2.St} : ∀ {vs : List Nat}, σ'.length = σ.length → (∀ i, i ∉ vs → σ'[i]? = σ[i]?) → wipe σ' vs = wipe σ vs := fun {vs} hl h => by
  refine List.ext_getElem? fun i => ?_
  by_cases hi : i ∈ vs
  · have none : ∀ {ws : List Nat} (σ : L2.St), i ∈ ws → i < σ.length → (wipe σ ws)[i]? = some none := by
      intro ws
      induction ws with
      | nil => intro _ h _; cases h
      | cons v r ih =>
        intro σ h hl
        show ((wipe σ r).set v _)[i]? = _
        by_cases e : v = i
        · rw [e, List.getElem?_set_self (by rw [wipe_length]; exact hl)]
        · rw [List.getElem?_set_ne e]
          exact ih σ ((List.mem_cons.mp h).resolve_left fun z => e z.symm) hl
    by_cases hlt : i < σ.length
    · rw [none σ hi hlt, none σ' hi (by omega)]
    · rw [List.getElem?_eq_none (by rw [wipe_length]; omega), List.getElem?_eq_none (by rw [wipe_length]; omega)]
  · rw [wipe_keep hi, wipe_keep hi, h i hi]
theorem Rel.wipe (r : Rel P L O H B σ env s) (vs : List Nat) : Rel P L O H B (L2.wipe σ vs) (wipeE env vs) s where
  base := r.base
  out := r.out
  len := by rw [wipe_length, wipe_len]; exact r.len
  slot := fun i sl e => by
    rcases wipe_get (vs := vs) e with rfl | ⟨h1, h2⟩
    · trivial
    · rw [wipe_keep h2]; exact r.slot i sl h1
  inj := fun i j xs ys a e1 e2 e3 e4 => by
    rcases wipe_get (vs := vs) e1 with h | ⟨h1, h2⟩
    · cases h
    · rcases wipe_get (vs := vs) e2 with h | ⟨h3, h4⟩
      · cases h
      · rw [wipe_keep h2] at e3
        rw [wipe_keep h4] at e4
        exact r.inj i j xs ys a h1 h3 e3 e4
/-- the list that grows, with all else -/
theorem Rel.grow (r : Rel P L O H B σ env s) (g : Same H H') : Rel P L O H' B σ env s := r.step (r.base.grow g) (.grow g)
/-- an owned list that no slot holds is changed -/
theorem Rel.wrOut (r : Rel P L O H B σ env s) {p : Addr} {vs : List V} {o : HO} (hp : O p) (hl : H p = some (.lst vs)) (no : ∀ (i : Nat) (ds : List D), env[i]? = some (Sl.own ds) → σ[i]? ≠ some (some (V.ref p))) : Rel P L O (upd H p o) B σ env s where
  base := r.base.wr hp hl
  out := r.out
  len := r.len
  inj := r.inj
  slot := fun i sl e => by
    have q := r.slot i sl e
    cases sl with
    | none => trivial
    | val d => obtain ⟨v, e1, q⟩ := q; exact ⟨v, e1, q.wr hp⟩
    | own ds =>
      obtain ⟨a, vs, e1, n, h1, h2, h3, h4⟩ := q
      have ha : a ≠ p := fun z => no i ds e (by rw [e1, z])
      exact ⟨a, vs, e1, n, h1, by rw [upd_ne ha]; exact h2, h3, h4.wr hp⟩

/-- .. seen from the start -/
theorem Post.bind0 {α β : Type} {r : R α} {f : α → Bxs → R β} {k : β → Bxs → List Addr → Hp → Prop} (h : Post P L O H E (r.bind f) k) : Post P L O H E r fun a s' _ _ => Post P L O H E (f a s') k := by
  cases r with
  | ok a s' => exact fun _ _ _ _ => h
  | exc c as s' => exact h
  | bad => exact h
end
/-! ### a comprehension as a function -/
def lcLoop (vs : List Nat) (t : Tgt) (c : MT) (m : ME) (env : En) : List D → Bxs → R (List D)
  | [], s => .ok [] s
  | x :: r, s => match t x (wipeE env vs) with
    | none => .bad
    | some env' => (c env' s).bind fun b s => if b = true then (m env' s).bind fun d s => (lcLoop vs t c m env r s).bind fun ds s => .ok (d :: ds) s else lcLoop vs t c m env r s
def mLc (mi : MI) (vs : List Nat) (t : Tgt) (c : MT) (m : ME) : MA := fun env s => (mi env s).bind fun xs s => lcLoop vs t c m env xs s
def mtYes : MT := fun _ s => .ok true s
section
variable {X : Cx} {P : Pr} {E : XK}
theorem ts_nil : PTs X [] (tT P E mtYes) := ⟨fun pins s σ H Q I ⟨L, O, B, env, s', rel, p⟩ => pts_nil.run pins s σ H Q I (p L H rel.base .refl)⟩
theorem ts_one {c : Expr} {m : MT} (h : PT X c (tT P E m)) : PTs X [c] (tT P E m) := pts_one h
/-- the reading of a comprehension, from what it computes -/
theorem lc_reads {st : Bool} {mi : MI} {vs : List Nat} {t : Tgt} {c : MT} {m : ME} {Q : VK} (h : tN P E (mLc mi vs t c m) σ H Q) : tLc (tI st P E mi) (tG P vs t) (tT P E c) (tE P E m) vs σ H Q := by
  obtain ⟨L, O, B, env, s, rel, post⟩ := h
  refine ⟨L, O, B, env, s, rel, (Post.bind post).mono fun xs s1 L1 H1 b1 t1 p1 J pins src hz hp N0 hN => ?_⟩
  have rel1 := rel.step b1 t1
  have hw : ∀ p ∈ pins, WDat P L1 O H1 p.1 p.2 := fun p h => by
    have := hp p h
    split at this
    · exact this.weak
    · exact this
  have nL : N0 ∉ L1 := fun m => b1.av hN (.inl m)
  have nO : ¬ O N0 := fun m => b1.av hN (.inr m)
  -- behind i turns
  let W : Nat → Nat → Hp → Prop := fun i n H' => n = xs.length - i ∧ i ≤ xs.length ∧ ∃ L' s' acc accD, Rel P L' (Ow O N0) H' B (L2.wipe σ vs) (wipeE env vs) s' ∧ Step L1 H1 L' H' ∧
    N0 ∉ L' ∧ H' N0 = some (.lst acc) ∧ acc.length ≤ i ∧ DatAll P L' (Ow O N0) H' accD acc ∧ Post P L1 (Ow O N0) H1 E (lcLoop vs t c m env (xs.drop i) s') fun ds s2 L2 H2 => NK P O H Q (accD ++ ds) s2 L2 H2
  refine ⟨W, ⟨xs.length, rfl, Nat.zero_le _, L1, s1, [], [], ?_, .new hN, nL, upd_same, Nat.zero_le _, rfl, ?_⟩, ?_⟩
  · exact (rel1.newOwn hN).wipe vs
  · rw [List.drop_zero]
    exact (p1.own fun a h => .inl h).mono fun ds s2 L2 H2 _ _ k => by rw [List.nil_append]; exact k
  · rintro i n H' ⟨hn, hi, L', s', acc, accD, rel', st', nL', hN', hl', hd', p'⟩
    have hw' : ∀ p ∈ pins, WDat P L' (Ow O N0) H' p.1 p.2 := fun p h => ((hw p h).more (ow_new hN)).step st'
    obtain ⟨go, stop⟩ := src L' (Ow O N0) H' s' rel'.base hw'
    by_cases hlt : i < xs.length
    · have hx : xs[i]? = some xs[i] := by simp [hlt]
      obtain ⟨g1, g2⟩ := go i xs[i] hx
      rw [List.drop_eq_getElem_cons hlt] at p'
      refine .inr ⟨g1, W (i + 1) (n - 1), fun H'' w => ⟨n - 1, by omega, w⟩, fun x H5 y => ?_⟩
      obtain ⟨gr, hx5⟩ := g2 x H5 y
      have p' : Post P L1 (Ow O N0) H1 E (match t xs[i] (wipeE env vs) with
        | none => .bad
        | some env' => (c env' s').bind fun b s => if b = true then (m env' s).bind fun d s => (lcLoop vs t c m env (xs.drop (i + 1)) s).bind fun ds s => .ok (d :: ds) s else lcLoop vs t c m env (xs.drop (i + 1)) s) fun ds s2 L2 H2 => NK P O H Q (accD ++ ds) s2 L2 H2 := p'
      cases q : t xs[i] (wipeE env vs) with
      | none => rw [q] at p'; exact p'.elim
      | some env' =>
        rw [q] at p'
        have rel5 := rel'.grow gr
        refine ⟨L', Ow O N0, B, wipeE env vs, s', xs[i], rel5, rel5.len, hx5, env', q, fun σ2 rel2 hl2 kp => ⟨(wipe_again hl2 fun i hi => kp i hi).trans (wipe_again (by rw [wipe_length]) fun i hi => wipe_keep hi), ?_⟩⟩
        have sp : Step L' H' L' H5 := .grow gr
        have noN : ∀ {L6 : List Addr} {H6 : Hp}, Step L' H' L6 H6 → N0 ∉ L6 := fun t m => (t.fresh N0 m).elim nL' fun z => by rw [hN'] at z; cases z
        have atN : ∀ {L6 : List Addr} {H6 : Hp}, Step L' H' L6 H6 → H6 N0 = some (.lst acc) := fun t => t.keep N0 _ hN' nL' fun _ z => nomatch z
        refine ⟨L', Ow O N0, B, env', s', rel2, ((Post.bind0 p').step (st'.trans sp)).mono fun b s6 L6 H6 b6 t6 p6 => ?_⟩
        have t6' := sp.trans t6
        cases b with
        | false =>
          refine iteF ?_
          exact ⟨by omega, by omega, L6, s6, acc, accD, rel'.step b6 t6', st'.trans t6', noN t6', atN t6', by omega, hd'.step t6', p6⟩
        | true =>
          refine iteT ⟨L6, Ow O N0, B, env', s6, rel2.step b6 t6, ((Post.bind0 p6).step (st'.trans t6')).mono fun d s7 L7 H7 b7 t7 p7 y hy => ⟨acc, atN (t6'.trans t7), by omega, ?_⟩⟩
          have t7' := t6'.trans t7
          have rel7 := rel'.step b7 t7'
          have own7 : Ow O N0 N0 := .inr rfl
          have up7 : Step L1 H1 L7 (upd H7 N0 (.lst (acc ++ [y]))) := ⟨(st'.trans t7').pre, (st'.trans t7').fresh, fun a o e n b => by
            have : a ≠ N0 := fun z => by rw [z, hN] at e; cases e
            rw [upd_ne this]
            exact (st'.trans t7').keep a o e n b, fun a h => by
            by_cases z : a = N0
            · rw [z, upd_same]; simp
            · rw [upd_ne z]; exact (st'.trans t7').live a h⟩
          have base7 : Base P L7 (Ow O N0) (upd H7 N0 (.lst (acc ++ [y]))) s7 := b7.wr own7 (atN t7')
          refine ⟨by omega, by omega, L7, s7, acc ++ [y], accD ++ [d], ?_, up7, noN t7', upd_same, by rw [List.length_append]; show acc.length + 1 ≤ _; omega, ?_, ?_⟩
          · refine rel7.wrOut own7 (atN t7') fun i ds e z => ?_
            obtain ⟨a, vs', e1, _, _, h2, _⟩ := (rel1.wipe vs).slot i _ e
            rw [e1] at z; cases z
            rw [hN] at h2; cases h2
          · exact ((hd'.step t7').append (.cons hy .nil)).wr own7
          · exact (Post.bind0 (f := fun ds s => R.ok (d :: ds) s) (k := fun ds s2 L2 H2 => NK P O H Q (accD ++ ds) s2 L2 H2) p7).mono fun ds s8 L8 H8 b8 t8 k => by
              show NK P O H Q ((accD ++ [d]) ++ ds) s8 L8 H8
              rw [List.append_assoc]
              exact k L8 H8 b8 t8
    · have e : i = xs.length := by omega
      subst e
      rw [List.drop_length] at p'
      refine .inl ⟨stop, ?_⟩
      have k : NK P O H Q (accD ++ []) s' L' H' := p' L' H' rel'.base st'
      rw [List.append_nil] at k
      exact k N0 acc rel'.base (t1.none hN) nL' nO hN' (Nat.le_trans hl' hz) hd'
end
end UH

set_option maxRecDepth 100000
set_option maxHeartbeats 4000000
namespace UH
open PySem PySem.Spec PyProof.Rows L2

section
variable {P : Pr} {L L1 : List Addr} {O B : Addr → Prop} {H H1 : Hp} {s s1 : Bxs} {σ : L2.St} {env : En} {p : Addr}
theorem DatFs.mono {L' : List Addr} {O' : Addr → Prop} {H' : Hp} (hp : L <+: L') (hk : ∀ a o, H a = some o → NTbl o → ¬ Av L O a → H' a = some o ∧ ¬ Av L' O' a) : ∀ {ds : List (Str × D)} {vs : List (Str × V)}, DatFs P L O H ds vs → DatFs P L' O' H' ds vs
  | [], _, q => q
  | (k, d) :: ds, _, ⟨v, r, e, h1, h2⟩ => ⟨v, r, e, Dat.mono hp hk d h1, DatFs.mono hp hk h2⟩
theorem BoxAt.mono {L' : List Addr} {O' : Addr → Prop} (hp : L <+: L') (hk : ∀ a o, H a = some o → NTbl o → ¬ Av L O a → H a = some o ∧ ¬ Av L' O' a) {b : Box} {a : Addr} (q : BoxAt P L O H b a) : BoxAt P L' O' H b a := by
  cases b with
  | lst ds => obtain ⟨vs, e, z, r⟩ := q; exact ⟨vs, e, z, DatAll.mono hp hk ds r⟩
  | ins c fs => obtain ⟨dx, vs, e, r⟩ := q; exact ⟨dx, vs, e, DatFs.mono hp hk r⟩
/-- an owned thing becomes a box -/
theorem Base.box_new (b : Base P L1 (Ow O p) H1 s1) (hn : p ∉ L1) (ho : ¬ O p) {x : Box} (q : BoxAt P L1 (Ow O p) H1 x p) : Base P (L1 ++ [p]) O H1 (s1 ++ [x]) := by
  have pre : L1 <+: L1 ++ [p] := List.prefix_append _ _
  have hk : ∀ a o, H1 a = some o → NTbl o → ¬ Av L1 (Ow O p) a → H1 a = some o ∧ ¬ Av (L1 ++ [p]) O a := fun a o e _ n => ⟨e, fun m => n (m.elim (fun m => (List.mem_append.mp m).elim .inl fun m => .inr (.inr (by simpa using m))) fun m => .inr (.inl m))⟩
  refine ⟨by rw [List.length_append, List.length_append, b.len] <;> rfl, ?_, fun n y a e e2 => ?_, fun a m o => ?_, fun a o => b.live a (.inl o), b.tabs⟩
  · rw [List.nodup_append]
    exact ⟨b.nd, by simp, fun x hx y hy z => hn (by have : y = p := by simpa using hy
                                                    rw [← this, ← z]; exact hx)⟩
  · by_cases hl : n < s1.length
    · rw [List.getElem?_append_left hl] at e
      rw [List.getElem?_append_left (by rw [← b.len]; exact hl)] at e2
      exact (b.box n y a e e2).mono pre hk
    · have hl2 : n = s1.length := by
        have := (List.getElem?_eq_some_iff.mp e).1
        rw [List.length_append] at this
        have : n < s1.length + 1 := this
        omega
      rw [hl2, List.getElem?_append_right (Nat.le_refl _), Nat.sub_self] at e
      rw [hl2, b.len, List.getElem?_append_right (Nat.le_refl _), Nat.sub_self] at e2
      cases e; cases e2
      exact q.mono pre hk
  · rcases List.mem_append.mp m with m | m
    · exact b.dis a m (.inl o)
    · exact ho (by have : a = p := by simpa using m
                   rw [← this]; exact o)
theorem Step.box (t : Step L H L1 H1) (h : H p = Option.none) : Step L H (L1 ++ [p]) H1 :=
  ⟨t.pre.trans (List.prefix_append _ _), fun a m => (List.mem_append.mp m).elim (t.fresh a) fun m => .inr ((List.mem_singleton.mp m).symm ▸ h), t.keep, t.live⟩
/-- a slot holds a new list -/
theorem Rel.own (r : Rel P L O H B σ env s) (b : Base P L1 (Ow O p) H1 s1) (t : Step L H L1 H1) (h0 : H p = none) {vs : List V} {ds : List D} (ho : ¬ O p) (hh : H1 p = some (.lst vs)) (hz : vs.length ≤ sizeLine) (hd : DatAll P L1 (Ow O p) H1 ds vs) (i : Nat) :
    Rel P L1 (Ow O p) H1 B (σ.set i (some (.ref p))) (env.set i (.own ds)) s1 where
  base := b
  out := fun a h => .inl (r.out a h)
  len := by rw [List.length_set, List.length_set]; exact r.len
  slot := fun j sl e => by
    rcases get_set e with ⟨e1, e2, e3⟩ | ⟨e1, e2⟩
    · subst e1 e2
      exact ⟨p, vs, by rw [List.getElem?_set_self (by rw [r.len]; exact e3)], fun m => ho (r.out p m), .inr rfl, hh, hz, hd⟩
    · rw [List.getElem?_set_ne (fun z => e1 z.symm)]
      have q := r.slot j sl e2
      cases sl with
      | none => trivial
      | val d => obtain ⟨v, h1, q⟩ := q; exact ⟨v, h1, (q.more (ow_new h0)).step t⟩
      | own ds =>
        obtain ⟨a, ws, h1, n, h2, h3, h4, h5⟩ := q
        exact ⟨a, ws, h1, n, .inl h2, t.keep a _ h3 (fun m => r.base.dis a m h2) (fun _ z => nomatch z), h4, (h5.more (ow_new h0)).step t⟩
  inj := fun a c xs ys x e1 e2 e3 e4 => by
    have old : ∀ (j : Nat) (xs : List D), env[j]? = some (.own xs) → σ[j]? ≠ some (some (.ref p)) := fun j xs e z => by
      obtain ⟨a, _, h1, _, h2, h3, _⟩ := r.slot j _ e
      rw [h1] at z; cases z
      rw [h0] at h3; cases h3
    rcases get_set e1 with ⟨q1, _, l1⟩ | ⟨n1, q1⟩
    · rcases get_set e2 with ⟨q2, _, _⟩ | ⟨n2, q2⟩
      · rw [q1, q2]
      · rw [q1, List.getElem?_set_self (by rw [r.len]; exact l1)] at e3
        cases e3
        rw [List.getElem?_set_ne (fun z => n2 z.symm)] at e4
        exact absurd e4 (old _ _ q2)
    · rw [List.getElem?_set_ne (fun z => n1 z.symm)] at e3
      rcases get_set e2 with ⟨q2, _, l2⟩ | ⟨n2, q2⟩
      · rw [q2, List.getElem?_set_self (by rw [r.len]; exact l2)] at e4
        cases e4
        exact absurd e3 (old _ _ q1)
      · rw [List.getElem?_set_ne (fun z => n2 z.symm)] at e4
        exact r.inj a c xs ys x q1 q2 e3 e4
/-- an owned list is changed -/
theorem Rel.wr (r : Rel P L O H B σ env s) {i : Nat} {ds ds' : List D} {vs vs' : List V} (e : env[i]? = some (.own ds)) (hs : σ[i]? = some (some (.ref p))) (hO : O p) (hh : H p = some (.lst vs)) (hz : vs'.length ≤ sizeLine) (hd : DatAll P L O H ds' vs') :
    Rel P L O (upd H p (.lst vs')) B σ (env.set i (.own ds')) s where
  base := r.base.wr hO hh
  out := r.out
  len := by rw [List.length_set]; exact r.len
  slot := fun j sl e2 => by
    rcases get_set e2 with ⟨e3, e4, e5⟩ | ⟨e3, e4⟩
    · subst e3 e4
      obtain ⟨a, ws, h1, n, _⟩ := r.slot j _ e
      rw [hs] at h1; cases h1
      exact ⟨p, vs', hs, n, hO, upd_same, hz, hd.wr hO⟩
    · have q := r.slot j sl e4
      cases sl with
      | none => trivial
      | val d => obtain ⟨v, h1, q⟩ := q; exact ⟨v, h1, q.wr hO⟩
      | own ys =>
        obtain ⟨a, ws, h1, n, h2, h3, h4, h5⟩ := q
        have ha : a ≠ p := fun z => e3 (r.inj j i ys ds p e4 e (by rw [h1, z]) hs)
        exact ⟨a, ws, h1, n, h2, by rw [upd_ne ha]; exact h3, h4, h5.wr hO⟩
  inj := fun a c xs ys x e1 e2 e3 e4 => by
    have back : ∀ (j : Nat) (xs : List D), (env.set i (.own ds'))[j]? = some (.own xs) → ∃ ys, env[j]? = some (.own ys) := fun j xs e1 => by
      rcases get_set e1 with ⟨q1, _, l1⟩ | ⟨n1, q1⟩
      · rw [q1]; exact ⟨ds, e⟩
      · exact ⟨xs, q1⟩
    obtain ⟨_, e1⟩ := back _ _ e1
    obtain ⟨_, e2⟩ := back _ _ e2
    exact r.inj a c _ _ x e1 e2 e3 e4
/-- an owned list is never changed again -/
theorem Rel.frz (r : Rel P L O H B σ env s) {i : Nat} {ds : List D} (e : env[i]? = some (.own ds)) (hs : σ[i]? = some (some (.ref p))) : Rel P L (fun b => O b ∧ b ≠ p) H B σ (env.set i (.val (.lst ds))) s where
  base := r.base.less fun a h => h.1
  out := fun a h => ⟨r.out a h, fun z => by
    obtain ⟨q, _, h1, n, _⟩ := r.slot i _ e
    rw [hs] at h1; cases h1
    exact n (z ▸ h)⟩
  len := by rw [List.length_set]; exact r.len
  slot := fun j sl e2 => by
    rcases get_set e2 with ⟨e3, e4, e5⟩ | ⟨e3, e4⟩
    · subst e3 e4
      obtain ⟨a, ws, h1, n, h2, h3, h4, h5⟩ := r.slot j _ e
      rw [hs] at h1; cases h1
      exact ⟨.ref p, hs, p, ws, rfl, ⟨h4, .inl h3, fun m => m.elim (fun m => r.base.dis p m h2) fun m => m.2 rfl⟩, h5.less fun a h => h.1⟩
    · have q := r.slot j sl e4
      cases sl with
      | none => trivial
      | val d => obtain ⟨v, h1, q⟩ := q; exact ⟨v, h1, q.less fun a h => h.1⟩
      | own ys =>
        obtain ⟨a, ws, h1, n, h2, h3, h4, h5⟩ := q
        have ha : a ≠ p := fun z => e3 (r.inj j i ys ds p e4 e (by rw [h1, z]) hs)
        exact ⟨a, ws, h1, n, ⟨h2, ha⟩, h3, h4, h5.less fun a h => h.1⟩
  inj := fun a c xs ys x e1 e2 e3 e4 => by
    rcases get_set e1 with ⟨_, q, _⟩ | ⟨n1, q1⟩
    · cases q
    · rcases get_set e2 with ⟨_, q, _⟩ | ⟨n2, q2⟩
      · cases q
      · exact r.inj a c xs ys x q1 q2 e3 e4
theorem upd_step {L₀ : List Addr} {H₀ : Hp} (st : Step L₀ H₀ L H) {o : HO} (h : H₀ p = none) : Step L₀ H₀ L (upd H p o) :=
  ⟨st.pre, st.fresh, fun a u e n b => by
    have : a ≠ p := fun z => by rw [z, h] at e; cases e
    rw [upd_ne this]
    exact st.keep a u e n b, fun a e => by
    by_cases z : a = p
    · rw [z, upd_same]; simp
    · rw [upd_ne z]; exact st.live a e⟩
/-- a box is changed -/
theorem Step.boxWr {o : HO} {n : Nat} (h : L[n]? = some p) : Step L H L (upd H p o) :=
  ⟨List.prefix_refl _, fun _ h => .inl h, fun a u e m _ => by rw [upd_ne fun z => m (by rw [z]; exact List.mem_of_getElem? h)]; exact e, fun a e => by
    by_cases z : a = p
    · rw [z, upd_same]; simp
    · rw [upd_ne z]; exact e⟩
theorem Base.boxWr (b : Base P L O H s) {n : Nat} {xs ds : List D} {vs : List V} (hb : s[n]? = some (.lst xs)) (h : L[n]? = some p) (hz : vs.length ≤ sizeLine) (hd : DatAll P L O H ds vs) : Base P L O (upd H p (.lst vs)) (s.set n (.lst ds)) := by
  have t : Step L H L (upd H p (.lst vs)) := Step.boxWr h
  obtain ⟨ws, hp, _⟩ := b.box n _ p hb h
  refine ⟨by rw [List.length_set]; exact b.len, b.nd, fun m x a e1 e2 => ?_, b.dis, fun a o => t.live a (b.live a o), tabs_wr b.tabs hp⟩
  rcases get_set e1 with ⟨q1, q2, _⟩ | ⟨q1, q2⟩
  · subst q1 q2
    rw [h] at e2; cases e2
    exact ⟨vs, upd_same, hz, hd.step t⟩
  · have ne : a ≠ p := fun z => q1 ((List.getElem?_inj (List.getElem?_eq_some_iff.mp e2).1 b.nd).mp (by rw [e2, h, z]))
    have := b.box m x a q2 e2
    cases x with
    | lst ys => obtain ⟨us, h1, h2, h3⟩ := this; exact ⟨us, by rw [upd_ne ne]; exact h1, h2, h3.step t⟩
    | ins c fs => obtain ⟨dx, us, h1, h3⟩ := this; exact ⟨dx, us, by rw [upd_ne ne]; exact h1, h3.step t⟩
end

section
variable {X : Cx} {P : Pr} {F : Frm} {E : XK}
/-- a new list that this frame alone holds -/
def msNew (i : Nat) (m : MA) : MS := fun env s => (m env s).bind fun ds s => .ok (.next (env.set i (.own ds))) s
/-- .. as a box -/
def msBox (i : Nat) (m : MA) : MS := fun env s => (m env s).bind fun ds s => .ok (.next (env.set i (.val (.obj s.length)))) (s ++ [.lst ds])
/-- .. never changed -/
def msLst (i : Nat) (m : MA) : MS := fun env s => (m env s).bind fun ds s => .ok (.next (env.set i (.val (.lst ds)))) s
theorem At.new {σ : L2.St} {H H1 : Hp} {env : En} {s s1 : Bxs} {L L1 : List Addr} {O : Addr → Prop} (rel : Rel P L O H F.B σ env s) (st : Step F.L₀ F.H₀ L H) (fr : ∀ a, O a → F.B a ∨ F.H₀ a = none) (pn : ∀ p ∈ F.pins, Dat P L O H p.1 p.2)
    {p : Addr} (b : Base P L1 (Ow O p) H1 s1) (t : Step L H L1 H1) (h0 : H p = none) {vs : List V} {ds : List D} (ho : ¬ O p) (hh : H1 p = some (.lst vs)) (hz : vs.length ≤ sizeLine) (hd : DatAll P L1 (Ow O p) H1 ds vs) (i : Nat) :
    At P F (σ.set i (some (.ref p))) H1 (env.set i (.own ds)) s1 :=
  ⟨L1, Ow O p, rel.own b t h0 ho hh hz hd i, st.trans t, fun a h => h.elim (fr a) fun z => .inr (by rw [z]; exact st.none h0), by rw [List.length_set, List.length_set]; exact rel.len, fun q hq => ((pn q hq).more (ow_new h0)).step t⟩
theorem At.newBox {σ : L2.St} {H H1 : Hp} {env : En} {s s1 : Bxs} {L L1 : List Addr} {O : Addr → Prop} (rel : Rel P L O H F.B σ env s) (st : Step F.L₀ F.H₀ L H) (fr : ∀ a, O a → F.B a ∨ F.H₀ a = none) (pn : ∀ p ∈ F.pins, Dat P L O H p.1 p.2)
    {p : Addr} (b : Base P L1 (Ow O p) H1 s1) (t : Step L H L1 H1) (h0 : H p = none) {vs : List V} {ds : List D} (hn : p ∉ L1) (ho : ¬ O p) (hh : H1 p = some (.lst vs)) (hz : vs.length ≤ sizeLine) (hd : DatAll P L1 (Ow O p) H1 ds vs) (i : Nat) :
    At P F (σ.set i (some (.ref p))) H1 (env.set i (.val (.obj s1.length))) (s1 ++ [.lst ds]) := by
  have t2 := t.box h0
  have b2 := b.box_new hn ho (x := .lst ds) ⟨vs, hh, hz, hd⟩
  have h2 : Dat P (L1 ++ [p]) O H1 (.obj s1.length) (.ref p) := ⟨p, by rw [b.len, List.getElem?_append_right (Nat.le_refl _), Nat.sub_self] <;> rfl, rfl⟩
  exact ⟨L1 ++ [p], O, (rel.step b2 t2).setVal rel.len i h2, st.trans t2, fr, by rw [List.length_set, List.length_set]; exact rel.len, fun q hq => (pn q hq).step t2⟩
theorem asgNew (i : Nat) {te : TE} {m : MA} {D : Ends} {σ : L2.St} {H : Hp} (h : ∀ σ H Q, tN P E m σ H Q → te σ H Q) (q : tS P F E (msNew i m) D σ H) : tAsg te (gName i) D σ H := by
  obtain ⟨env, s, ⟨L, O, rel, st, fr, hl, pn⟩, q⟩ := q
  exact h _ _ _ ⟨L, O, F.B, env, s, rel, (to_post rel st q).mono fun ds s1 L1 H1 b1 t1 p1 p vs hb h0 h1 h2 h3 h4 h5 => p1 _ H1 (At.new rel st fr pn hb t1 h0 h2 h3 h4 h5 i)⟩
theorem asgBox (i : Nat) {te : TE} {m : MA} {D : Ends} {σ : L2.St} {H : Hp} (h : ∀ σ H Q, tN P E m σ H Q → te σ H Q) (q : tS P F E (msBox i m) D σ H) : tAsg te (gName i) D σ H := by
  obtain ⟨env, s, ⟨L, O, rel, st, fr, hl, pn⟩, q⟩ := q
  exact h _ _ _ ⟨L, O, F.B, env, s, rel, (to_post rel st q).mono fun ds s1 L1 H1 b1 t1 p1 p vs hb h0 h1 h2 h3 h4 h5 => p1 _ H1 (At.newBox rel st fr pn hb t1 h0 h1 h2 h3 h4 h5 i)⟩
theorem asgLst (i : Nat) {te : TE} {m : MA} {D : Ends} {σ : L2.St} {H : Hp} (h : ∀ σ H Q, tN P E m σ H Q → te σ H Q) (q : tS P F E (msLst i m) D σ H) : tAsg te (gName i) D σ H := by
  obtain ⟨env, s, ⟨L, O, rel, st, fr, hl, pn⟩, q⟩ := q
  exact h _ _ _ ⟨L, O, F.B, env, s, rel, (to_post rel st q).mono fun ds s1 L1 H1 b1 t1 p1 p vs hb h0 h1 h2 h3 h4 h5 =>
    p1 _ H1 (At.setVal rel st fr hl pn b1 t1 i (d := .lst ds) ⟨p, vs, rfl, ⟨h4, .inl h3, fun m => m.elim h1 h2⟩, h5.less fun a h => .inl h⟩)⟩
variable {i : Nat} {x : Str} {e : Expr} {m : MA} {pos p' : Pos}
theorem s_new (i : Nat) (hN : X.N.Nodup) (hx : Loc X.env.scope x) (h : PE X e (tN P E m)) (hi : X.N[i]? = some x := by rfl) (hs : swapsWith e (some (.Name x p')) pos.line X.env = pure false := by rfl) (hf : X.fn x = true ∨ X.env.scope.names.lookup x = some .local := by first | exact .inl rfl | exact .inr rfl) :
    PS X (.Assign [.Name x p'] e pos) (tS P F E (msNew i m)) := (ps_set hN hi hx h hs hf).imp fun D σ H => asgNew i fun _ _ _ q => q
theorem s_box (i : Nat) (hN : X.N.Nodup) (hx : Loc X.env.scope x) (h : PE X e (tN P E m)) (hi : X.N[i]? = some x := by rfl) (hs : swapsWith e (some (.Name x p')) pos.line X.env = pure false := by rfl) (hf : X.fn x = true ∨ X.env.scope.names.lookup x = some .local := by first | exact .inl rfl | exact .inr rfl) :
    PS X (.Assign [.Name x p'] e pos) (tS P F E (msBox i m)) := (ps_set hN hi hx h hs hf).imp fun D σ H => asgBox i fun _ _ _ q => q

/-! ### comprehensions -/
variable {elt tg iter : Expr} {ifs : List Expr} {sc : Scope} {own : List (Str × Nat)} {st : Bool} {mi : MI} {t : Tgt} {c : MT} {me : ME}
theorem n_lc (own : List (Str × Nat)) (hc : X.calm = true) (hN : X.N.Nodup) (tk : Tk X E) (hi : PI X tg iter (tI st P E mi)) (ok : BlkOk X.N X.env.scope sc own)
    (hg : ∀ (s : Shared) (H : Hp) (C : Addr) (cl : List (Str × Addr)) (fp : List Addr) (xe : Value → Shared → Prop), Tk (blkX X s H sc (compEnvC sc cl C X.env) fp xe) E → PG (blkX X s H sc (compEnvC sc cl C X.env) fp xe) tg (tG P (own.map (·.2)) t))
    (ht : ∀ (s : Shared) (H : Hp) (C : Addr) (cl : List (Str × Addr)) (fp : List Addr) (xe : Value → Shared → Prop), Tk (blkX X s H sc (compEnvC sc cl C X.env) fp xe) E → PTs (blkX X s H sc (compEnvC sc cl C X.env) fp xe) ifs (tT P E c))
    (he : ∀ (s : Shared) (H : Hp) (C : Addr) (cl : List (Str × Addr)) (fp : List Addr) (xe : Value → Shared → Prop), Tk (blkX X s H sc (compEnvC sc cl C X.env) fp xe) E → PE (blkX X s H sc (compEnvC sc cl C X.env) fp xe) elt (tE P E me))
    (hs : ∀ x, foldedSetIterable iter X.env x = pure x := by intro _; rfl) :
    PE X (.ListComp elt [⟨tg, iter, ifs, 0⟩] sc pos) (tN P E (mLc mi (own.map (·.2)) t c me)) :=
  (pg_lc hc hN tk hi ok hg ht he hs).imp fun σ H Q => lc_reads
theorem s_lc (i : Nat) {k : MS} (own : List (Str × Nat)) (hk : ∀ {te : TE} {D : Ends} {σ : L2.St} {H : Hp}, (∀ σ H Q, tN P E (mLc mi (own.map (·.2)) t c me) σ H Q → te σ H Q) → tS P F E k D σ H → tAsg te (gName i) D σ H) (hc : X.calm = true) (hN : X.N.Nodup) (tk : Tk X E)
    (hyl : X.env.scope.names.lookup x = some .local) (hi : PI X tg iter (tI st P E mi)) (ok : BlkOk X.N X.env.scope sc own)
    (hg : ∀ (s : Shared) (H : Hp) (C : Addr) (cl : List (Str × Addr)) (fp : List Addr) (xe : Value → Shared → Prop), Tk (blkX X s H sc (compEnvC sc cl C X.env) fp xe) E → PG (blkX X s H sc (compEnvC sc cl C X.env) fp xe) tg (tG P (own.map (·.2)) t))
    (ht : ∀ (s : Shared) (H : Hp) (C : Addr) (cl : List (Str × Addr)) (fp : List Addr) (xe : Value → Shared → Prop), Tk (blkX X s H sc (compEnvC sc cl C X.env) fp xe) E → PTs (blkX X s H sc (compEnvC sc cl C X.env) fp xe) ifs (tT P E c))
    (he : ∀ (s : Shared) (H : Hp) (C : Addr) (cl : List (Str × Addr)) (fp : List Addr) (xe : Value → Shared → Prop), Tk (blkX X s H sc (compEnvC sc cl C X.env) fp xe) E → PE (blkX X s H sc (compEnvC sc cl C X.env) fp xe) elt (tE P E me))
    {lpos : Pos} (hy : X.N[i]? = some x := by rfl) (hsw : swapsWith (.ListComp elt [⟨tg, iter, ifs, 0⟩] sc lpos) (some (.Name x p')) pos.line X.env = pure true := by rfl) (hs : ∀ x, foldedSetIterable iter X.env x = pure x := by intro _; rfl) :
    PS X (.Assign [.Name x p'] (.ListComp elt [⟨tg, iter, ifs, 0⟩] sc lpos) pos) (tS P F E k) :=
  (pg_setLc hc hN tk hy hyl hsw hi ok hg ht he hs).imp fun D σ H q => hk (fun σ H Q => lc_reads) q
end
end UH

set_option maxRecDepth 100000
set_option maxHeartbeats 4000000
namespace UH
open PySem PySem.Spec PyProof.Rows L2

section
variable {X : Cx} {P : Pr} {F : Frm} {E : XK}
/-! ### for -/
def forLoop (t : Tgt) (b : MS) (env : En) : List D → Bxs → R Fl
  | [], s => .ok (.next env) s
  | x :: r, s => match t x env with
    | none => .bad
    | some env' => (b env' s).bind fun f s => match f with
      | .next e => forLoop t b e r s
      | .cont e => forLoop t b e r s
      | .brk e => .ok (.next e) s
      | .ret d => .ok (.ret d) s
      | .retN ds => .ok (.retN ds) s
def msFor (mi : MI) (t : Tgt) (b : MS) : MS := fun env s => (mi env s).bind fun xs s => forLoop t b env xs s
abbrev Frm.pin (F : Frm) (ps : List (D × V)) : Frm := ⟨F.L₀, F.H₀, F.B, F.pins ++ ps⟩
theorem At.unpin {ps : List (D × V)} {σ : L2.St} {H : Hp} {env : En} {s : Bxs} (h : At P (F.pin ps) σ H env s) : At P F σ H env s := by
  obtain ⟨L, O, rel, st, fr, hl, pn⟩ := h
  exact ⟨L, O, rel, st, fr, hl, fun p hp => pn p (List.mem_append_left _ hp)⟩
theorem s_for {vs : List Nat} {tg iter : Expr} {body : List Stmt} {mi : MI} {t : Tgt} {mb : MS} {pos : Pos} (hp : PassesOwn (model X.prog X.w) X.A X.env X.xe) (hc : X.calm = true) (hi : PI X tg iter (tI true P E mi)) (hg : PG X tg (tG P vs t))
    (hb : ∀ ps, PSs X body (tS P (F.pin ps) E mb)) (hs : ∀ x, foldedSetIterable iter X.env x = pure x := by intro _; rfl) : PS X (.For tg iter body [] pos) (tS P F E (msFor mi t mb)) := by
  -- the pins are known when the walk begins: the body is read under each
  have hb' : PSs X body fun D σ H => ∃ ps, tS P (F.pin ps) E mb D σ H := ⟨fun pins s σ H D I ⟨ps, h⟩ => (hb ps).run pins s σ H D I h⟩
  refine (ps_for hp hc hi hg hb' hs).imp fun D σ H ⟨env, s, ⟨L, O, rel, st, fr, hl, pn⟩, q⟩ => ⟨L, O, F.B, env, s, rel, (to_post rel st q).mono fun xs s1 L1 H1 b1 t1 p1 J ps src hz hps => ?_⟩
  have hps : ∀ p ∈ ps, Dat P L1 O H1 p.1 p.2 := hps
  refine ⟨fun i n σ H => n = xs.length - i ∧ i ≤ xs.length ∧ ∃ env s, At P (F.pin ps) σ H env s ∧ SPost P F E D (forLoop t mb env (xs.drop i) s), ⟨xs.length, rfl, Nat.zero_le _, env, s1, ⟨L1, O, rel.step b1 t1, st.trans t1, fr, hl, fun p hp => (List.mem_append.mp hp).elim (fun m => (pn p m).step t1) (hps p)⟩, p1⟩, ?_⟩
  rintro i n σ2 H2 ⟨hn, hi, env2, s2, ⟨L2, O2, rel2, st2, fr2, hl2, pn2⟩, q2⟩
  obtain ⟨go, stop⟩ := src L2 O2 H2 s2 rel2.base fun p hp => (pn2 p (List.mem_append_right _ hp)).weak
  by_cases hlt : i < xs.length
  · obtain ⟨g1, g2⟩ := go i xs[i] (by simp [hlt])
    rw [List.drop_eq_getElem_cons hlt] at q2
    refine .inr ⟨g1, fun σ' H' => ∃ env s, At P (F.pin ps) σ' H' env s ∧ SPost P F E D (forLoop t mb env (xs.drop (i + 1)) s), fun σ' H' w => ⟨n - 1, by omega, by omega, hlt, w⟩, fun x H3 y => ?_⟩
    obtain ⟨gr, hx⟩ := g2 x H3 y
    have q2 : SPost P F E D (match t xs[i] env2 with
      | none => .bad
      | some env' => (mb env' s2).bind fun f s => match f with
        | .next e => forLoop t mb e (xs.drop (i + 1)) s
        | .cont e => forLoop t mb e (xs.drop (i + 1)) s
        | .brk e => .ok (.next e) s
        | .ret d => .ok (.ret d) s
        | .retN ds => .ok (.retN ds) s) := q2
    cases ht : t xs[i] env2 with
    | none => rw [ht] at q2; exact q2.elim
    | some env' =>
      rw [ht] at q2
      dsimp only at q2
      have rel3 := rel2.step (rel2.base.grow gr) (Step.grow gr)
      refine ⟨L2, O2, F.B, env2, s2, xs[i], rel3, rel3.len, hx, env', ht, fun σ4 rel4 _ _ => ⟨ps, env', s2, ⟨L2, O2, rel4, st2.trans (.grow gr), fr2, rel4.len, fun p hp => (pn2 p hp).step (.grow gr)⟩, ?_⟩⟩
      cases hr : mb env' s2 with
      | ok f s' =>
        rw [hr] at q2
        cases f with
        | next e => exact fun σ' H' a => ⟨e, s', a, q2⟩
        | cont e => exact fun σ' H' a => ⟨e, s', a, q2⟩
        | brk e => exact fun σ' H' a => q2 σ' H' a.unpin
        | ret d => exact q2
        | retN ds => exact q2
      | exc c as s' => rw [hr] at q2; exact q2
      | bad => rw [hr] at q2; exact q2
  · have e : i = xs.length := by omega
    subst e
    rw [List.drop_length] at q2
    exact .inl ⟨stop, q2 σ2 H2 (At.unpin ⟨L2, O2, rel2, st2, fr2, hl2, pn2⟩)⟩

/-! ### a list is never changed again -/
def msFrz (i : Nat) (m : MS) : MS := fun env s => match env[i]? with
  | some (.own ds) => m (env.set i (.val (.lst ds))) s
  | _ => .bad
theorem ss_frz {sts : List Stmt} {m : MS} (i : Nat) (h : PSs X sts (tS P F E m)) : PSs X sts (tS P F E (msFrz i m)) :=
  ⟨fun pins s σ H D I ⟨env, s', ⟨L, O, rel, st, fr, hl, pn⟩, q⟩ => by
    unfold msFrz at q
    split at q
    · rename_i ds e
      obtain ⟨a, ws, h1, _⟩ := rel.slot i _ e
      exact h.run pins s σ H D I ⟨_, s', ⟨L, _, rel.frz e h1, st, fun b hb => fr b hb.1, by rw [List.length_set]; exact hl, fun p hp => (pn p hp).less fun a h => h.1⟩, q⟩
    · exact q.elim⟩

/-! ### lists changed -/
def msApp (i : Nat) (m : ME) : MS := fun env s => match env[i]? with
  | some (.own ds) => (m env s).bind fun d s => if ds.length < sizeLine then .ok (.next (env.set i (.own (ds ++ [d])))) s else .bad
  | _ => .bad
theorem fr_own {σ : L2.St} {H : Hp} {env : En} {s : Bxs} {L : List Addr} {O : Addr → Prop} (rel : Rel P L O H F.B σ env s) (fr : ∀ a, O a → F.B a ∨ F.H₀ a = none) {i : Nat} {ds : List D} (e : env[i]? = some (.own ds)) :
    ∃ a vs, σ[i]? = some (some (.ref a)) ∧ OwnAt P L O H a vs ds ∧ F.H₀ a = none := by
  obtain ⟨a, vs, h1, n, q⟩ := rel.slot i _ e
  exact ⟨a, vs, h1, q, (fr a q.1).elim (fun z => absurd z n) id⟩
theorem own_step {L L' : List Addr} {O : Addr → Prop} {H H' : Hp} {a : Addr} {vs : List V} {ds : List D} {σ : L2.St} {B : Addr → Prop} {env : En} {s : Bxs} (rel : Rel P L O H B σ env s) (t : Step L H L' H') (q : OwnAt P L O H a vs ds) : OwnAt P L' O H' a vs ds := q.step t rel.base.dis
/-- what holds when an owned list has been changed -/
theorem At.wr {σ : L2.St} {H H1 : Hp} {env : En} {s s1 : Bxs} {L L1 : List Addr} {O : Addr → Prop} (rel : Rel P L O H F.B σ env s) (st : Step F.L₀ F.H₀ L H) (fr : ∀ a, O a → F.B a ∨ F.H₀ a = none) (pn : ∀ p ∈ F.pins, Dat P L O H p.1 p.2)
    {i : Nat} {ds ds' : List D} {vs vs' : List V} {a : Addr} (e : env[i]? = some (.own ds)) (h1 : σ[i]? = some (some (.ref a))) (q : OwnAt P L O H a vs ds) (h0 : F.H₀ a = none) (b1 : Base P L1 O H1 s1) (t : Step L H L1 H1) (hz : vs'.length ≤ sizeLine) (hd : DatAll P L1 O H1 ds' vs') :
    At P F σ (upd H1 a (.lst vs')) (env.set i (.own ds')) s1 :=
  have r1 := rel.step b1 t
  have q1 := own_step rel t q
  ⟨L1, O, r1.wr e h1 q1.1 q1.2.1 hz hd, upd_step (st.trans t) h0, fr, by rw [List.length_set]; exact rel.len, fun p hp => ((pn p hp).step t).wr q1.1⟩
theorem s_app (i : Nat) {x : Str} {e : Expr} {m : ME} {p apos cpos pos : Pos} (hx : PE X (.Name x p) (tVar i)) (he : PE X e (tE P E m))
    (hb : attributeBase (.Name x p) "append" X.env (eval (.Name x p) X.env) = eval (.Name x p) X.env := by rfl)
    (hfew : ((backTo cpos (starEach [e] X.env)).all (fun x => !x.1) && (backToKw cpos (keywordEach [] X.env)).all (fun x => x.1.isSome)
      && decide (([e] : List Expr).length + ([] : List Keyword).length + (if ([] : List Keyword).isEmpty then 0 else 1) < 30)) = true := by rfl)
    (hline : (apos.endLine == cpos.line) = true := by rfl) (hs : starEach [e] X.env = (false, eval e X.env) :: starEach [] X.env := by rfl)
    (hs2 : swapsWith (.Call (.Attribute (.Name x p) "append" apos) [e] [] cpos) none pos.line X.env = pure false := by rfl) :
    PS X (.Expr (.Call (.Attribute (.Name x p) "append" apos) [e] [] cpos) pos) (tS P F E (msApp i m)) :=
  (ps_expr (pe_bm PySem.F.plainAttrs_list PySem.F.slot_list_append PySem.F.type_list_append mt_append hx (pa_cons he pa_nil hs) hb hfew hline hs (by rfl)) hs2).imp fun D σ H ⟨env, s, ⟨L, O, rel, st, fr, hl, pn⟩, q⟩ => by
    unfold msApp at q
    split at q
    · rename_i ds e1
      obtain ⟨a, vs, h1, qo, h0⟩ := fr_own rel fr e1
      refine ⟨_, h1, .inl ⟨rfl, vs, .inl (.inl qo.2.1)⟩, L, O, F.B, env, s, rel, (to_post rel st q).mono fun d s1 L1 H1 b1 t1 p1 v hv => ?_⟩
      split at p1
      · rename_i hz
        have q1 := own_step rel t1 qo
        have hz : vs.length < sizeLine := by rw [← qo.2.2.2.len]; exact hz
        exact ⟨a, vs, v, rfl, rfl, q1.2.1, hz, p1 _ _ (At.wr rel st fr pn e1 h1 qo h0 b1 t1 (by rw [List.length_append]; exact hz) (q1.2.2.2.append (.cons hv .nil)))⟩
      · exact p1.elim
    · exact q.elim
end
end UH

set_option maxRecDepth 100000
set_option maxHeartbeats 4000000
namespace UH
open PySem PySem.Spec PyProof.Rows L2

section
variable {X : Cx} {P : Pr} {E : XK}
/-! ### a <= b <= c -/
def mChain (f g : D → D → Option D) (a b c : ME) : ME := fun env s => (a env s).bind fun x s => (b env s).bind fun y s => (R.ofO ((f x y).bind asB) s).bind fun k s => if k = true then (c env s).bind fun z s => R.ofO (g y z) s else .ok (.bl false) s
theorem chain_of {r r' : R2} {f g : D → D → Option D} {ma mb mc : ME} (hv : V2 P r f) (hv' : V2 P r' g) {σ : L2.St} {H : Hp} {Q : VK} (h : tE P E (mChain f g ma mb mc) σ H Q) : tChain r r' (tW P E ma) (tW P E mb) (tW P E mc) σ H Q := by
  obtain ⟨L, O, B, env, s, rel, p⟩ := h
  refine ⟨L, O, B, env, s, rel, (Post.bind p).mono fun x s1 L1 H1 b1 t1 p1 v hv1 => ⟨L1, O, B, env, s1, rel.step b1 t1, (Post.bind p1).mono fun y s2 L2 H2 b2 t2 p2 w hw => ?_⟩⟩
  obtain ⟨k, e, p3⟩ := Post.ofO (Post.bind p2)
  cases ef : f x y with
  | none => rw [ef] at e; cases e
  | some d =>
    rw [ef] at e
    refine hv b2 (hv1.step t2) hw ef fun z H3 g3 hd => ⟨k, asB_dat hd.weak e, ?_⟩
    have b3 := b2.grow g3
    have t3 : Step L2 H2 L2 H3 := .grow g3
    have p3 := p3 L2 H3 b3 t3
    cases k with
    | true =>
      have p3 : Post P L2 O H3 E ((mc env s2).bind fun z s => R.ofO (g y z) s) fun d _ L' H' => ∀ v, Dat P L' O H' d v → Q v H' := p3
      exact iteT ⟨L2, O, B, env, s2, (rel.step b1 t1).step b3 (t2.trans t3), (Post.bind p3).mono fun z s4 L4 H4 b4 t4 p4 u hu => by
        obtain ⟨d', e', k'⟩ := Post.ofO p4
        exact hv' b4 (hw.step (t3.trans t4)) hu e' fun u' H5 g5 q => k' L4 H5 (b4.grow g5) (.grow g5) u' q⟩
    | false => exact iteF (p3 L2 H3 b3 .refl _ rfl)
theorem e_chain {a b c : Expr} {op op' : CmpOp} {r r' : R2} {f g : D → D → Option D} {ma mb mc : ME} {pos : Pos} (ho : OpR X (compareOp op) r) (hv : V2 P r f) (ho' : OpR X (compareOp op') r') (hv' : V2 P r' g) (ha : PE X a (tW P E ma)) (hb : PE X b (tW P E mb)) (hc : PE X c (tW P E mc))
    (hm : lastMarks [op, op'] [b, c] = false := by with_unfolding_all rfl) : PE X (.Compare a [op, op'] [b, c] pos) (tE P E (mChain f g ma mb mc)) := (pe_chain ho ho' ha hb hc hm).imp fun σ H Q => chain_of hv hv'
theorem t_chain {a b c : Expr} {op op' : CmpOp} {r r' : R2} {f g : D → D → Option D} {ma mb mc : ME} {pos : Pos} (ho : OpR X (compareOp op) r) (hv : V2 P r f) (ho' : OpR X (compareOp op') r') (hv' : V2 P r' g) (ha : PE X a (tW P E ma)) (hb : PE X b (tW P E mb)) (hc : PE X c (tW P E mc))
    (hm : lastMarks [op, op'] [b, c] = false := by with_unfolding_all rfl) : PT X (.Compare a [op, op'] [b, c] pos) (tT P E (mtE (mChain f g ma mb mc))) := (pt_chain ho ho' ha hb hc hm).imp fun σ H Q => tTest_of fun Q' => chain_of hv hv'

/-! ### isinstance(x, T) -/
def tyN : D → Option String
  | .non => some "NoneType"
  | .bl _ => some "bool"
  | .int _ => some "int"
  | .str _ => some "str"
  | .tup _ => some "tuple"
  | .lst _ => some "list"
  | .dic _ => some "dict"
  | _ => none
def fIsi (T : String) (d : D) : Option D := ((tyN d).bind fun t => kitB t T).map D.bl
theorem WDat.ty {L : List Addr} {O : Addr → Prop} {H : Hp} {d : D} {v : V} {t : String} (h : WDat P L O H d v) (e : tyN d = some t) : TyX P.K H v (.type t) := by
  cases d with
  | lst ds =>
    cases e
    obtain ⟨a, vs, rfl, z, r, _⟩ := h
    rcases r with r | ⟨o, r⟩
    · exact .base (.lst r)
    · exact .base (.frz r)
  | tup ds =>
    cases e
    obtain ⟨a, vs, rfl, ⟨z, r⟩, _⟩ := h
    rcases r with ⟨r | ⟨o, r⟩, _⟩ | ⟨o, its, n, h1, h2, _⟩
    · exact .base (.tup r)
    · exact .fTuple r
    · exact .kTuple h1 h2
  | dic ds =>
    cases e
    obtain ⟨a, vs, rfl, ⟨z, r, _⟩, _⟩ := h
    rcases r with r | ⟨o, r⟩
    · exact .base (.dK r)
    · exact .fDict r
  | non => cases e; cases (show v = _ from h); exact .base .non
  | bl b => cases e; cases (show v = _ from h); exact .base (.bl b)
  | int b => cases e; cases (show v = _ from h); exact .base (.int b)
  | str b => cases e; cases (show v = _ ∧ _ from h).1; exact .base (.str b)
  | _ => cases e
theorem e_isi {e : Expr} {x : Str} {T : String} {m : ME} {p p2 pos : Pos} (hK : X.K = P.K) (hg : Gl X "isinstance") (hm : X.mg "isinstance" = none) (ha : PE X e (tW P E m)) (ht : PE X (.Name x p2) (tC (.ty T))) (hs : starEach [e, .Name x p2] X.env = (false, eval e X.env) :: starEach [.Name x p2] X.env := by rfl)
    (hs2 : starEach [.Name x p2] X.env = (false, eval (.Name x p2) X.env) :: starEach [] X.env := by rfl) (hpl : (backTo pos (starEach [.Name x p2] X.env)).any (·.1) = false := by rfl) : PE X (.Call (.Name "isinstance" p) [e, .Name x p2] [] pos) (tE P E (m1 (fIsi T) m)) :=
  (pe_callB call_isi hg hm (by decide +kernel) (pa_cons ha (pa_cons ht pa_nil hs2) hs) (by decide) (by decide) hs hpl).imp fun σ H Q ⟨L, O, B, env, s, rel, q⟩ => ⟨L, O, B, env, s, rel, (Post.bind q).mono fun d s1 L1 H1 b1 t1 p1 v hv => by
    obtain ⟨d', e', k⟩ := Post.ofO p1
    unfold fIsi at e'
    cases et : tyN d with
    | none => rw [et] at e'; cases e'
    | some t =>
      rw [et] at e'
      cases ek : kitB t T with
      | none =>
        have : (Option.map D.bl (kitB t T)) = some d' := e'
        rw [ek] at this; cases this
      | some b =>
        have : (Option.map D.bl (kitB t T)) = some d' := e'
        rw [ek] at this; cases this
        exact ⟨v, .ty T, .type t, .type T, b, rfl, .ty T, by rw [hK]; exact hv.ty et, kit_ty ek, k L1 H1 b1 .refl _ rfl⟩⟩

/-! ### texts -/
theorem cOk_sub0 : True := trivial
section
open Builtin Builtin.Str PySem.StrLaws
theorem cOk_sub {x : Str} (h : cOk x.cps.toList) (i j : Nat) : cOk (strSub x i j).cps.toList := by
  intro c hc
  have e : (strSub x i j).cps.toList = ((x.cps.toList).drop i).take (j - i) := strSub_toList x i j
  rw [e] at hc
  exact h c (List.mem_of_mem_drop (List.mem_of_mem_take hc))
theorem len_sub (x : Str) (i j : Nat) : (strSub x i j).length ≤ x.length := by
  have e : (strSub x i j).cps.toList = ((x.cps.toList).drop i).take (j - i) := strSub_toList x i j
  have e1 := congrArg List.length e
  rw [List.length_take, List.length_drop] at e1
  show (strSub x i j).cps.size ≤ x.cps.size
  rw [← Array.length_toList, ← Array.length_toList, e1]
  omega
theorem sOk_parts {x : Str} (h : sOk x) (w : Nat) : ∀ (cuts : List Nat) (a : Nat), ∀ y ∈ partsFrom x w a cuts, sOk y
  | [], a, y, hy => by
    rw [show y = _ from List.mem_singleton.mp hy]
    exact ⟨Nat.le_trans (len_sub x _ _) h.1, cOk_sub h.2 _ _⟩
  | c :: r, a, y, hy => by
    rcases List.mem_cons.mp hy with e | hy
    · rw [e]; exact ⟨Nat.le_trans (len_sub x _ _) h.1, cOk_sub h.2 _ _⟩
    · exact sOk_parts h w r _ y hy
theorem sOk_split {x : Str} (h : sOk x) (y : Str) : ∀ z ∈ Txt.split x y, sOk z := by
  intro z hz
  unfold Txt.split at hz
  split at hz
  · rw [List.mem_singleton.mp hz]; exact h
  · split at hz
    · rw [List.mem_singleton.mp hz]; exact h
    · rw [partsBetween_eq] at hz
      exact sOk_parts h _ _ _ z hz
end
def asStr (m : ME) : ME := fun env s => (m env s).bind fun d s => match d with
  | .str x => .ok (.str x) s
  | _ => .bad
def opSplit : D → D → Option (List D)
  | .str x, .str y => if y.length ≠ 0 ∧ x.length + 2 ≤ sizeLine then some ((Txt.split x y).map D.str) else none
  | _, _ => none
theorem n_split {o e : Expr} {ma mb : ME} {apos pos : Pos} (ho : PE X o (tE P E ma)) (he : PE X e (tE P E mb)) (hs : starEach [e] X.env = [(false, eval e X.env)] := by rfl) (hbase : attributeBase o "split" X.env (eval o X.env) = eval o X.env := by rfl) (hline : (apos.endLine == pos.line) = true := by rfl) :
    PE X (.Call (.Attribute o "split" apos) [e] [] pos) (tN P E (m2N opSplit (asStr ma) mb)) :=
  (pe_split ho he hs hbase hline).imp fun σ H Q ⟨L, O, B, env, s, rel, q⟩ => ⟨L, O, B, env, s, rel, (Post.bind (Post.bind q)).mono fun d s1 L1 H1 b1 t1 p1 v hv => by
    cases d with
    | str x =>
      obtain ⟨rfl, hx⟩ := (show v = _ ∧ _ from hv)
      refine ⟨⟨x, rfl⟩, L1, O, B, env, s1, rel.step b1 t1, (Post.bind (p1 L1 H1 b1 .refl)).mono fun d2 s2 L2 H2 b2 t2 p2 w hw => ?_⟩
      obtain ⟨ds, e', k⟩ := Post.ofO p2
      cases d2 with
      | str y =>
        have e' : (if y.length ≠ 0 ∧ x.length + 2 ≤ sizeLine then some ((Txt.split x y).map D.str) else none) = some ds := e'
        split at e'
        · rename_i hz
          cases e'
          obtain ⟨rfl, hy⟩ := (show w = _ ∧ _ from hw)
          refine ⟨x, y, rfl, rfl, beq_eq_false_iff_ne.mpr hz.1, hz.2, fun p hp => nk_new (t1.trans t2) b2 hp (by rw [List.length_map]; exact Nat.le_trans (PyProof.Rows.split_le x y) hz.2) (DatAll.ofStrs (sOk_split hx y)) (k L2 _ (b2.new hp) (.new hp))⟩
        · cases e'
      | _ => cases e'
    | _ => exact p1.elim⟩
def asSs : List D → Option (List Str)
  | [] => some []
  | .str x :: r => (asSs r).map (x :: ·)
  | _ :: _ => none
theorem asSs_eq : ∀ {ds : List D} {xs : List Str}, asSs ds = some xs → ds = xs.map D.str
  | [], xs, e => by cases e; rfl
  | d :: r, xs, e => by
    cases d with
    | str x =>
      have e : (asSs r).map (x :: ·) = some xs := e
      cases q : asSs r with
      | none => rw [q] at e; cases e
      | some ys => rw [q] at e; cases e; rw [asSs_eq q]; rfl
    | _ => cases e
def opJoin : D → D → Option D
  | .str a, .lst ds => (asSs ds).bind fun ys => if (ys.map (·.length)).sum + ys.length * a.length ≤ 16777216 then some (.str (Str.join a ys)) else none
  | .str a, .tup ds => (asSs ds).bind fun ys => if (ys.map (·.length)).sum + ys.length * a.length ≤ 16777216 then some (.str (Str.join a ys)) else none
  | _, _ => none
theorem e_join {o e : Expr} {ma mb : ME} {apos pos : Pos} (hK : X.K = P.K) (ho : PE X o (tE P E ma)) (he : PE X e (tW P E mb)) (hs : starEach [e] X.env = [(false, eval e X.env)] := by rfl) (hbase : attributeBase o "join" X.env (eval o X.env) = eval o X.env := by rfl) (hline : (apos.endLine == pos.line) = true := by rfl) :
    PE X (.Call (.Attribute o "join" apos) [e] [] pos) (tE P E (m2 opJoin (asStr ma) mb)) :=
  (pe_join ho he hs hbase hline).imp fun σ H Q ⟨L, O, B, env, s, rel, q⟩ => ⟨L, O, B, env, s, rel, (Post.bind (Post.bind q)).mono fun d s1 L1 H1 b1 t1 p1 v hv => by
    cases d with
    | str x =>
      obtain ⟨rfl, hx⟩ := (show v = _ ∧ _ from hv)
      refine ⟨⟨x, rfl⟩, L1, O, B, env, s1, rel.step b1 t1, (Post.bind (p1 L1 H1 b1 .refl)).mono fun d2 s2 L2 H2 b2 t2 p2 w hw => ?_⟩
      obtain ⟨d', e', k⟩ := Post.ofO p2
      have fin : ∀ {ds : List D} {vs : List V} {a : Addr}, w = .ref a → DatAll P L2 O H2 ds vs → (SqL X.K H2 a vs ∨ SqT X.K H2 a vs) → ((asSs ds).bind fun ys => if (ys.map (·.length)).sum + ys.length * x.length ≤ 16777216 then some (D.str (Str.join x ys)) else none) = some d' →
          ∃ (a : Str) (p : Addr) (ys : List Str), V.str x = .str a ∧ [w] = [V.ref p] ∧ (SqL X.K H2 p (ys.map V.str) ∨ SqT X.K H2 p (ys.map V.str)) ∧ (ys.map (·.length)).sum + ys.length * a.length ≤ 16777216 ∧ Q (.str (Txt.join a ys)) H2 := by
        intro ds vs a ew hd hq e'
        cases es : asSs ds with
        | none => rw [es] at e'; cases e'
        | some ys =>
          rw [es] at e'
          have e' : (if (ys.map (·.length)).sum + ys.length * x.length ≤ 16777216 then some (D.str (Str.join x ys)) else none) = some d' := e'
          split at e'
          · rename_i hz
            cases e'
            rw [asSs_eq es] at hd
            obtain ⟨rfl, hy⟩ := DatAll.strs hd
            refine ⟨x, a, ys, rfl, by rw [ew], hq, hz, ?_⟩
            rw [txt_join]
            exact k L2 H2 b2 .refl _ ⟨rfl, sOk_join hx hy hz⟩
          · cases e'
      cases d2 with
      | lst ds =>
        obtain ⟨a, vs, ew, q, z, r⟩ := hw.sql
        exact fin ew r (.inl (by rw [hK]; exact q)) e'
      | tup ds =>
        obtain ⟨a, vs, ew, q, z, r⟩ := Dat.sqt hw
        exact fin ew r (.inr (by rw [hK]; exact q)) e'
      | _ => cases e'
    | _ => exact p1.elim⟩
end
end UH

set_option maxRecDepth 100000
set_option maxHeartbeats 4000000
namespace UH
open PySem PySem.Spec PyProof.Rows L2

/-! ### repr -/
theorem cOk_textFrom : ∀ (ts : List Str) (k : Nat) (acc : Str), cOk acc.cps.toList → (∀ t ∈ ts, cOk t.cps.toList) → cOk (textFrom k acc ts).cps.toList
  | [], _, _, h, _ => h
  | t :: r, k, acc, h, q => cOk_textFrom r (k + 1) _ (cOk_app (cOk_app h (by split <;> exact cOk_of _)) (q t List.mem_cons_self)) fun z hz => q z (List.mem_cons_of_mem _ hz)
mutual
theorem cOk_shown : ∀ d : PyData, d.canLay0 = true → cOk d.shown.cps.toList
  | .none, _ => cOk_of _
  | .bool b, _ => by cases b <;> exact cOk_of _
  | .int i, _ => cOk_of _
  | .str x, h => cOk_repr (by
      have h : PyData.strOk x = true := h
      unfold PyData.strOk at h
      rw [← Array.all_toList, List.all_eq_true] at h
      exact fun c hc => of_decide_eq_true (h c hc))
  | .list xs, h => cOk_app (cOk_textFrom _ _ _ (cOk_of _) (cOk_shownAll xs h)) (cOk_of _)
  | .tuple xs, h => cOk_app (cOk_app (cOk_of _) (cOk_join _ (cOk_of _) (cOk_shownAll xs h))) (by split <;> exact cOk_of _)
  | .dict _, h => by cases h
theorem cOk_shownAll : ∀ ds : List PyData, PyData.canLayAll0 ds = true → ∀ t ∈ PyData.shownAll ds, cOk t.cps.toList
  | [], _, t, h => by cases h
  | d :: ds, h, t, q => by
    have h : (d.canLay0 && PyData.canLayAll0 ds) = true := h
    rw [Bool.and_eq_true] at h
    rcases List.mem_cons.mp q with e | q
    · rw [e]; exact cOk_shown d h.1
    · exact cOk_shownAll ds h.2 t q
end
mutual
theorem noDict : ∀ d : PyData, d.canLay0 = true → d.hasDict = false
  | .none, _ => rfl
  | .bool b, _ => rfl
  | .int i, _ => rfl
  | .str x, h => rfl
  | .list xs, h => noDictAll xs h
  | .tuple xs, h => noDictAll xs h
  | .dict _, h => by cases h
theorem noDictAll : ∀ ds : List PyData, PyData.canLayAll0 ds = true → PyData.hasDictAll ds = false
  | [], _ => rfl
  | d :: ds, h => by
    have h : (d.canLay0 && PyData.canLayAll0 ds) = true := h
    rw [Bool.and_eq_true] at h
    show (d.hasDict || PyData.hasDictAll ds) = false
    rw [noDict d h.1, noDictAll ds h.2] <;> rfl
end
section
variable {X : Cx}
def rRepr (K : PySem.W.Frag) : List V → Hp → VK → Prop := fun xs H Q => ∃ x d, xs = [x] ∧ Dp K H x d ∧ d.showable = true ∧ d.hasDict = false ∧ d.depth ≤ 60 ∧ d.shown.length ≤ sizeLine ∧ Q (.str d.shown) H
theorem call_reprD (hg : X.A.guards = some []) (hu : X.A.units + 65 < cLine) : CallR X (.builtin "repr") (rRepr X.K) := by
  intro pins s σ H xs us Q I r h
  obtain ⟨x, d, rfl, hd, hs, hn, hp, hz, q⟩ := h
  obtain ⟨u, rfl, ru⟩ := r.one
  obtain ⟨as, rd⟩ := Dp.reads I d x u hd ru
  have ref : ∀ {a : Addr}, u = .ref a → wpAny (model X.prog X.w) X.A (call (.builtin "repr") [u]) (EP X pins σ Q) X.xe s := fun {a} e => by
    subst e
    exact repr_of_reads' rd hs (PyData.noDict_hsm hn) hg (by omega) (fun _ _ e => e) (fun h' w tk hk => ⟨.str d.shown, H, I.kept (t' := tk) hk, ⟨w, rfl⟩, q⟩) hz
  cases hd with
  | non => cases ru; exact PySem.P.repr_of_none ⟨.str _, H, I.tok _, ⟨_, rfl⟩, q⟩
  | bl b => cases ru; exact PySem.P.repr_of_bool ⟨.str _, H, I.tok _, ⟨_, rfl⟩, q⟩
  | int i => obtain ⟨t, rfl⟩ := ru; exact PySem.P.repr_of_int (of_decide_eq_true hs) ⟨.str _, H, I.tok _, ⟨_, rfl⟩, q⟩
  | str z => obtain ⟨t, rfl⟩ := ru; exact PySem.P.repr_of_str ⟨.str _, H, I.tok _, ⟨_, rfl⟩, q⟩ hz
  | lst h1 h2 => exact ref ru
  | tup h1 h2 => exact ref ru
end
def fRepr : List D → Option D
  | [d] => if (d.pl && d.toP.showable && decide (d.toP.depth ≤ 60) && decide (d.toP.shown.length ≤ sizeLine)) = true then some (.str d.toP.shown) else none
  | _ => none
theorem v_repr {P : Pr} : VN P (rRepr P.K) fRepr := by
  intro L O H s ds d vs Q b h e k
  match ds, e, h with
  | [x], e, h =>
    obtain ⟨v, rfl, hv⟩ := WDatAll.one h
    have e : (if (x.pl && x.toP.showable && decide (x.toP.depth ≤ 60) && decide (x.toP.shown.length ≤ sizeLine)) = true then some (D.str x.toP.shown) else none) = some d := e
    split at e
    · rename_i c
      cases e
      simp only [Bool.and_eq_true, decide_eq_true_eq] at c
      obtain ⟨⟨⟨c1, c2⟩, c3⟩, c4⟩ := c
      obtain ⟨h1, h2⟩ := hv.dp c1
      exact ⟨v, x.toP, rfl, h1, c2, noDict _ h2, c3, c4, k _ H (Same.refl _) ⟨rfl, c4, cOk_shown _ h2⟩⟩
    · cases e

/-! ### text * int -/
section
variable {X : Cx} {P : Pr} {E : XK}
def rRepS : R2 := fun x y H Q => ∃ (z : Str) (n : Int), x = .str z ∧ y = .int n ∧ 2 ≤ n ∧ n ≤ 1000 ∧ 1 ≤ z.length ∧ z.length ≤ 1000 ∧ Q (.str ⟨(List.replicate n.toNat z.cps).foldl (· ++ ·) #[]⟩) H
theorem cOk_rep (z : Array Nat) (h : cOk z.toList) : ∀ (n : Nat) (acc : Array Nat), cOk acc.toList → cOk ((List.replicate n z).foldl (· ++ ·) acc).toList
  | 0, _, q => q
  | n + 1, acc, q => by
    rw [List.replicate_succ, List.foldl_cons]
    exact cOk_rep z h n _ fun c hc => by
      rw [Array.toList_append] at hc
      exact (List.mem_append.mp hc).elim (q c) (h c)
theorem len_rep (z : Array Nat) : ∀ (n : Nat) (acc : Array Nat), ((List.replicate n z).foldl (· ++ ·) acc).size = acc.size + n * z.size
  | 0, _ => by simp
  | n + 1, acc => by
    rw [List.replicate_succ, List.foldl_cons, len_rep z n, Array.size_append, Nat.succ_mul]
    omega
theorem op_repS : OpR X (binaryOp .Mult) rRepS := by
  intro pins s σ H x y v u Q I rx ry h
  obtain ⟨z, n, rfl, rfl, h0, h1, hz, h2, q⟩ := h
  obtain ⟨t, rfl⟩ := rx
  obtain ⟨t', rfl⟩ := ry
  have hm : z.length * n.toNat ≤ 1000 * 1000 := Nat.mul_le_mul h2 (by omega)
  refine PySem.P.mul_str (by rw [decide_eq_false (by omega), decide_eq_false (by omega)]; rfl) (fun a b => ?_) (fun a b => ?_) ?_
  · have : (z.length : Int) ≤ (2 ^ 63 - 1) / n := by
      rw [Int.le_ediv_iff_mul_le (by omega)]
      have h3 : (z.length : Int) ≤ 1000 := by omega
      have h4 : (z.length : Int) * n ≤ 1000 * 1000 := by
        have := Int.mul_le_mul h3 h1 (by omega) (by decide)
        omega
      omega
    omega
  · unfold Builtin.Str.tooLong
    exact decide_eq_false (by rw [sizeLine_eq]; omega)
  · rw [if_neg (by omega), if_neg (by rw [beq_eq_false_iff_ne.mpr (show n ≠ 1 by omega), beq_eq_false_iff_ne.mpr (show z.length ≠ 0 by omega)]; decide)]
    refine ⟨?_, ⟨.str _, H, I.tok _, ⟨_, rfl⟩, q⟩⟩
    show (Array.size _) ≤ _
    rw [len_rep]
    have hm : n.toNat * z.cps.size ≤ 1000 * 1000 := Nat.mul_le_mul (by omega) h2
    show 0 + n.toNat * z.cps.size ≤ _
    rw [sizeLine_eq]; omega
def opRepS : D → D → Option D
  | .str z, .int n => if 2 ≤ n ∧ n ≤ 1000 ∧ 1 ≤ z.length ∧ z.length ≤ 1000 then some (.str ⟨(List.replicate n.toNat z.cps).foldl (· ++ ·) #[]⟩) else none
  | _, _ => none
theorem v_repS : V2 P rRepS opRepS := by
  intro L O H s x y d v w Q b hx hy e k
  cases x with
  | str z =>
    cases y with
    | int n =>
      have e : (if 2 ≤ n ∧ n ≤ 1000 ∧ 1 ≤ z.length ∧ z.length ≤ 1000 then some (D.str ⟨(List.replicate n.toNat z.cps).foldl (· ++ ·) #[]⟩) else none) = some d := e
      split at e
      · rename_i c
        cases e
        obtain ⟨rfl, hz⟩ := (show v = _ ∧ _ from hx)
        refine ⟨z, n, rfl, hy, c.1, c.2.1, c.2.2.1, c.2.2.2, k _ H (Same.refl _) ⟨rfl, ?_, cOk_rep _ hz.2 _ _ (by intro c hc; simp at hc)⟩⟩
        show (Array.size _) ≤ _
        rw [len_rep]
        have hm : n.toNat * z.cps.size ≤ 1000 * 1000 := Nat.mul_le_mul (by omega) c.2.2.2
        show 0 + n.toNat * z.cps.size ≤ _
        rw [sizeLine_eq]; omega
      · cases e
    | _ => cases e
  | _ => cases e

/-! ### list.index -/
def opIndex : D → D → Option D
  | .lst ds, d => if ((D.lst ds).ok && d.ok) = true then (ds.findIdx? fun z => z.eqv d).map fun (j : Nat) => .int (j : Int) else none
  | _, _ => none
theorem e_index {o e : Expr} {ma mb : ME} {apos pos : Pos} (hK : X.K = P.K) (hu : X.A.units + 65 < cLine) (ho : PE X o (tW P E ma)) (he : PE X e (tW P E mb)) (hbase : attributeBase o "index" X.env (eval o X.env) = eval o X.env := by rfl)
    (hfew : ((backTo pos (starEach [e] X.env)).all (fun x => !x.1) && (backToKw pos (keywordEach [] X.env)).all (fun x => x.1.isSome)
      && decide (([e] : List Expr).length + ([] : List Keyword).length + (if ([] : List Keyword).isEmpty then 0 else 1) < 30)) = true := by rfl)
    (hline : (apos.endLine == pos.line) = true := by rfl) (hs : starEach [e] X.env = (false, eval e X.env) :: starEach [] X.env := by rfl) :
    PE X (.Call (.Attribute o "index" apos) [e] [] pos) (tE P E fun env s => (ma env s).bind fun x s => match x with
      | .lst ds => (mb env s).bind fun y s => R.ofO (opIndex (.lst ds) y) s
      | _ => .bad) :=
  (pe_bm PySem.F.plainAttrs_list PySem.F.slot_list_index PySem.F.type_list_index (mt_indexD hu) ho (pa_cons he pa_nil hs) hbase hfew hline hs (by rfl)).imp fun σ H Q ⟨L, O, B, env, s, rel, q⟩ => ⟨L, O, B, env, s, rel, (Post.bind q).mono fun x s1 L1 H1 b1 t1 p1 v hv => by
    cases x with
    | lst ds =>
      obtain ⟨a, vs, rfl, q1, z, r⟩ := hv.sql
      refine ⟨.inl ⟨rfl, vs, by rw [hK]; exact q1⟩, L1, O, B, env, s1, rel.step b1 t1, (Post.bind p1).mono fun y s2 L2 H2 b2 t2 p2 w hw => ?_⟩
      obtain ⟨d, e', k⟩ := Post.ofO p2
      have e' : (if ((D.lst ds).ok && y.ok) = true then (ds.findIdx? fun z => z.eqv y).map fun (j : Nat) => D.int (j : Int) else none) = some d := e'
      split at e'
      · rename_i c
        rw [Bool.and_eq_true] at c
        cases ej : ds.findIdx? (fun z => z.eqv y) with
        | none => rw [ej] at e'; cases e'
        | some j =>
          rw [ej] at e'; cases e'
          obtain ⟨h1, h2⟩ := WDat.shaped c.1 (hv.step t2)
          obtain ⟨h3, h4⟩ := WDat.shaped c.2 hw
          obtain ⟨hj, hy, hn⟩ := List.findIdx?_eq_some_iff_getElem.mp ej
          refine ⟨a, w, y.toP, D.toPs ds, j, (ds[j]).toP, rfl, rfl, by rw [hK]; exact h1, by rw [hK]; exact h3, h2, h4, ?_, hy, fun m z' hm hz' => ?_, k L2 H2 b2 .refl _ rfl⟩
          · rw [toPs_map, List.getElem?_map, List.getElem?_eq_getElem hj] <;> rfl
          · rw [toPs_map, List.getElem?_map, List.getElem?_eq_getElem (Nat.lt_trans hm hj)] at hz'
            cases hz'
            have := hn m hm
            simpa [D.eqv] using this
      · cases e'
    | _ => exact p1.elim⟩
end
end UH

set_option maxRecDepth 100000
set_option maxHeartbeats 4000000
namespace UH
open PySem PySem.Spec PyProof.Rows L2

section
variable {X : Cx} {P : Pr} {F : Frm} {E : XK}
/-! ### items of a box that is a list -/
def opIxS (s : Bxs) : D → D → Option D
  | .obj n, .int i => match s[n]? with
    | some (.lst ds) => atI ds i
    | _ => none
  | _, _ => none
def m2S (f : Bxs → D → D → Option D) (a b : ME) : ME := fun env s => (a env s).bind fun x s => (b env s).bind fun y s => R.ofO (f s x y) s
theorem Base.boxLst {L : List Addr} {O : Addr → Prop} {H : Hp} {s : Bxs} (b : Base P L O H s) {n : Nat} {ds : List D} {v : V} (h : Dat P L O H (.obj n) v) (e : s[n]? = some (.lst ds)) : ∃ a vs, L[n]? = some a ∧ v = .ref a ∧ H a = some (.lst vs) ∧ vs.length ≤ sizeLine ∧ DatAll P L O H ds vs := by
  obtain ⟨a, e1, e2⟩ := h
  obtain ⟨vs, h1, h2, h3⟩ := b.box n _ a e e1
  exact ⟨a, vs, e1, e2, h1, h2, h3⟩
theorem e_ixB {a b : Expr} {ma mb : ME} {pos : Pos} (hK : X.K = P.K) (ha : PE X a (tE P E ma)) (hb : PE X b (tE P E mb)) (hs : PlainIx b := by exact fun _ _ => rfl) : PE X (.Subscript a b pos) (tE P E (m2S opIxS ma mb)) :=
  (pe_ix ix_seq ha hb hs).imp fun σ H Q ⟨L, O, B, env, s, rel, q⟩ => ⟨L, O, B, env, s, rel, (Post.bind q).mono fun x s1 L1 H1 b1 t1 p1 v hv => ⟨L1, O, B, env, s1, rel.step b1 t1, (Post.bind p1).mono fun y s2 L2 H2 b2 t2 p2 w hw => by
    obtain ⟨d, e, k⟩ := Post.ofO p2
    unfold opIxS at e
    split at e
    · rename_i n i
      split at e
      · rename_i ds hs
        obtain ⟨a, vs, e1, e2, h1, h2, h3⟩ := b2.boxLst (hv.step t2) hs
        obtain ⟨u, e3, hu⟩ := atI_dat h3 e
        exact .inl ⟨a, vs, i, u, e2, hw, .inl (.inl h1), e3, k L2 H2 b2 .refl u hu⟩
      · cases e
    · cases e⟩⟩

/-! ### x[k] = e -/
def msSetIx (i : Nat) (mk m : ME) : MS := fun env s => match env[i]? with
  | some (.own ds) => (m env s).bind fun d s => (mk env s).bind fun k s => match k with
    | .int k => match ixN ds.length k with
      | some j => .ok (.next (env.set i (.own (ds.set j d)))) s
      | none => .bad
    | _ => .bad
  | some (.val (.obj n)) => (m env s).bind fun d s => (mk env s).bind fun k s => match k, s[n]? with
    | .int k, some (.lst ds) => match ixN ds.length k with
      | some j => .ok (.next env) (s.set n (.lst (ds.set j d)))
      | none => .bad
    | _, _ => .bad
  | _ => .bad
theorem At.boxWr {σ : L2.St} {H H1 : Hp} {env : En} {s s1 : Bxs} {L L1 : List Addr} {O : Addr → Prop} (rel : Rel P L O H F.B σ env s) (st : Step F.L₀ F.H₀ L H) (fr : ∀ a, O a → F.B a ∨ F.H₀ a = none) (pn : ∀ p ∈ F.pins, Dat P L O H p.1 p.2)
    {n : Nat} {xs ds : List D} {vs : List V} {a : Addr} (b1 : Base P L1 O H1 s1) (t : Step L H L1 H1) (e : s1[n]? = some (.lst xs)) (ha : L1[n]? = some a) (hz : vs.length ≤ sizeLine) (hd : DatAll P L1 O H1 ds vs) :
    At P F σ (upd H1 a (.lst vs)) env (s1.set n (.lst ds)) :=
  have t2 : Step L H L1 (upd H1 a (.lst vs)) := t.trans (Step.boxWr ha)
  ⟨L1, O, rel.step (b1.boxWr e ha hz hd) t2, st.trans t2, fr, rel.len, fun p hp => (pn p hp).step t2⟩
theorem s_setIx (i : Nat) {x : Str} {ie e : Expr} {mk m : ME} {p ps pos : Pos} (hx : PE X (.Name x p) (tVar i)) (hk : PE X ie (tE P E mk)) (he : PE X e (tE P E m)) (hs : swapsWithSole [.Subscript (.Name x p) ie ps] e pos.line X.env = pure false := by rfl) (hw : swappedStores [.Subscript (.Name x p) ie ps] e X.env = pure none := by rfl)
    (h1 : (assignEach [.Subscript (.Name x p) ie ps] X.env).map (·.2) = [assign (.Subscript (.Name x p) ie ps) X.env] := by rfl)
    (ha : ∀ v, assign (.Subscript (.Name x p) ie ps) X.env v = (do
      let ov ← holding [v] (eval (.Name x p) X.env)
      let iv ← holding [v, ov] (eval ie X.env)
      standAt ps
      holding [v, ov, iv] (setItem ov iv v)
      release [v, ov, iv] []) := by intro _; rfl) :
    PS X (.Assign [.Subscript (.Name x p) ie ps] e pos) (tS P F E (msSetIx i mk m)) :=
  (ps_asg he (pg_sub hx hk set_list ha) hs hw h1).imp fun D σ H ⟨env, s, ⟨L, O, rel, st, fr, hl, pn⟩, q⟩ => by
    unfold msSetIx at q
    split at q
    · rename_i ds e1
      obtain ⟨a, vs, h1, qo, h0⟩ := fr_own rel fr e1
      refine ⟨L, O, F.B, env, s, rel, (to_post rel st q).mono fun d s1 L1 H1 b1 t1 p1 v hv => ⟨_, h1, L1, O, F.B, env, s1, rel.step b1 t1, (to_post (rel.step b1 t1) (st.trans t1) p1).mono fun k s2 L2 H2 b2 t2 p2 w hw => ?_⟩⟩
      split at p2
      · rename_i kk
        split at p2
        · rename_i j ej
          have q2 := own_step rel (t1.trans t2) qo
          have hd := q2.2.2.2.set j (hv.step t2)
          exact ⟨a, vs, kk, j, rfl, hw, q2.2.1, by rw [← qo.2.2.2.len]; exact ej, p2 _ _ (At.wr rel st fr pn e1 h1 qo h0 b2 (t1.trans t2) (by rw [List.length_set]; exact qo.2.2.1) hd)⟩
        · exact p2.elim
      · exact p2.elim
    · rename_i n e1
      obtain ⟨u, h1, a0, ha0, hu⟩ := rel.slot i _ e1
      refine ⟨L, O, F.B, env, s, rel, (to_post rel st q).mono fun d s1 L1 H1 b1 t1 p1 v hv => ⟨_, h1, L1, O, F.B, env, s1, rel.step b1 t1, (to_post (rel.step b1 t1) (st.trans t1) p1).mono fun k s2 L2 H2 b2 t2 p2 w hw => ?_⟩⟩
      split at p2
      · rename_i kk ds es
        split at p2
        · rename_i j ej
          obtain ⟨a, vs, e1, e2, h1, h2, h3⟩ := b2.boxLst (Dat.step (t1.trans t2) (show Dat P L O H (.obj n) u from ⟨a0, ha0, hu⟩)) es
          exact ⟨a, vs, kk, j, e2, hw, h1, by rw [← h3.len]; exact ej, p2 _ _ (At.boxWr rel st fr pn b2 (t1.trans t2) es e1 (by rw [List.length_set]; exact h2) (h3.set j (hv.step t2)))⟩
        · exact p2.elim
      · exact p2.elim
    · exact q.elim

/-! ### a, b = e1, e2 -/
def msPar (i j : Nat) (ma mb : ME) : MS := fun env s => (ma env s).bind fun d s => (mb env s).bind fun e s => .ok (.next ((env.set i (.val d)).set j (.val e))) s
def msParN (i j : Nat) (ma : ME) (mb : MA) : MS := fun env s => (ma env s).bind fun d s => (mb env s).bind fun e s => .ok (.next ((env.set i (.val d)).set j (.own e))) s
variable {x y : Str} {a b : Expr} {px py pt : Pos} {kt k2 : Nat} {pt2 pos : Pos}
theorem s_par (i j : Nat) {ma mb : ME} (hc : X.calm = true) (hN : X.N.Nodup) (hx : X.env.scope.names.lookup x = some .local) (hy : X.env.scope.names.lookup y = some .local) (ha : PE X a (tE P E ma)) (hb : PE X b (tE P E mb)) (hi : X.N[i]? = some x := by rfl) (hj : X.N[j]? = some y := by rfl) (hij : i ≠ j := by decide)
    (hw : swappedStores [.Tuple [.Name x px, .Name y py] kt pt] (.Tuple [a, b] k2 pt2) X.env = pure (some [x, y]) := by rfl) (hs : swapsWithSole [.Tuple [.Name x px, .Name y py] kt pt] (.Tuple [a, b] k2 pt2) pos.line X.env = pure false := by rfl)
    (h1 : starEach [a, b] X.env = (false, eval a X.env) :: starEach [b] X.env := by rfl) (h2 : starEach [b] X.env = (false, eval b X.env) :: starEach [] X.env := by rfl) :
    PS X (.Assign [.Tuple [.Name x px, .Name y py] kt pt] (.Tuple [a, b] k2 pt2) pos) (tS P F E (msPar i j ma mb)) :=
  (ps_par hc hN hi hj hij hx hy (pa_cons ha (pa_cons hb pa_nil h2) h1) hw hs).imp fun D σ H ⟨env, s, ⟨L, O, rel, st, fr, hl, pn⟩, q⟩ =>
    ⟨L, O, F.B, env, s, rel, (to_post rel st q).mono fun d s1 L1 H1 b1 t1 p1 v hv => ⟨L1, O, F.B, env, s1, rel.step b1 t1, (to_post (rel.step b1 t1) (st.trans t1) p1).mono fun d2 s2 L2 H2 b2 t2 p2 w hw => ⟨v, w, rfl, p2 _ _ (by
      have t := t1.trans t2
      refine ⟨L2, O, ((rel.step b2 t).setVal rel.len i (hv.step t2)).setVal (by rw [List.length_set, List.length_set]; exact rel.len) j hw, st.trans t, fr, by rw [List.length_set, List.length_set, List.length_set, List.length_set]; exact rel.len, fun p hp => (pn p hp).step t⟩)⟩⟩⟩
theorem s_parN (i j : Nat) {ma : ME} {mb : MA} (hc : X.calm = true) (hN : X.N.Nodup) (hx : X.env.scope.names.lookup x = some .local) (hy : X.env.scope.names.lookup y = some .local) (ha : PE X a (tE P E ma)) (hb : PE X b (tN P E mb)) (hi : X.N[i]? = some x := by rfl) (hj : X.N[j]? = some y := by rfl) (hij : i ≠ j := by decide)
    (hw : swappedStores [.Tuple [.Name x px, .Name y py] kt pt] (.Tuple [a, b] k2 pt2) X.env = pure (some [x, y]) := by rfl) (hs : swapsWithSole [.Tuple [.Name x px, .Name y py] kt pt] (.Tuple [a, b] k2 pt2) pos.line X.env = pure false := by rfl)
    (h1 : starEach [a, b] X.env = (false, eval a X.env) :: starEach [b] X.env := by rfl) (h2 : starEach [b] X.env = (false, eval b X.env) :: starEach [] X.env := by rfl) :
    PS X (.Assign [.Tuple [.Name x px, .Name y py] kt pt] (.Tuple [a, b] k2 pt2) pos) (tS P F E (msParN i j ma mb)) :=
  (ps_par hc hN hi hj hij hx hy (pa_cons ha (pa_cons hb pa_nil h2) h1) hw hs).imp fun D σ H ⟨env, s, ⟨L, O, rel, st, fr, hl, pn⟩, q⟩ =>
    ⟨L, O, F.B, env, s, rel, (to_post rel st q).mono fun d s1 L1 H1 b1 t1 p1 v hv => ⟨L1, O, F.B, env, s1, rel.step b1 t1, (to_post (rel.step b1 t1) (st.trans t1) p1).mono fun ds s2 L2 H2 b2 t2 p2 p vs hb2 h0 hn ho hh hz hd => ⟨v, _, rfl, p2 _ _ (by
      have r1 : Rel P L1 O H1 F.B (σ.set i (some v)) (env.set i (.val d)) s1 := (rel.step b1 t1).setVal rel.len i hv
      exact At.new r1 (st.trans t1) fr (fun p hp => (pn p hp).step t1) hb2 t2 h0 ho hh hz hd j)⟩⟩⟩
end
end UH

set_option maxRecDepth 100000
set_option maxHeartbeats 4000000
/-! zip of a tuple and a list -/
namespace UZ
open PySem PySem.Spec PyProof.Rows L2
open PySem.Sem (wp)

/-- an iterator within zip, over what stands at l -/
structure Wk (prog : Program) (w : World) (it l : Addr) (xs : Array Value) (S : Heap → Nat → Prop) : Prop where
  ext : ∀ {h h' : Heap} {k : Nat}, S h k → (∀ o, h.get? it = some o → h'.get? it = some o) → (∀ o, h.get? l = some o → h'.get? l = some o) → S h' k
  lt : ∀ {h : Heap} {k : Nat}, S h k → it < h.objs.size
  item : ∀ {A : Around} {E : Value → Shared → Prop} {s : Shared} {k : Nat} {x : Value} {Q : Value → Shared → Prop}, S s.heap k → xs[k]? = some x → (∀ h', S h' (k + 1) → Heap.SameBut it s.heap h' → Q x { s with heap := h' }) → wpAny (model prog w) A (Builtin.SmallTypes.nextOf (.ref it)) Q E s
  stop : ∀ {A : Around} {E : Value → Shared → Prop} {s : Shared} {k : Nat} {Q : Value → Shared → Prop}, A.handled = none → S s.heap k → xs[k]? = none →
    (∀ h' e, Heap.ExtBut it s.heap h' → (∃ o, h'.get? e = some o ∧ o.cls = .type "StopIteration") → E (.ref e) { s with heap := h' }) → wpAny (model prog w) A (Builtin.SmallTypes.nextOf (.ref it)) Q E s
theorem tupleAt {h h' : Heap} {l : Addr} {xs : Array Value} (q : h.IsTuple l xs) (e : ∀ o, h.get? l = some o → h'.get? l = some o) : h'.IsTuple l xs := by
  obtain ⟨o, ho, r⟩ := q
  exact ⟨o, e o ho, r⟩
theorem listAt {h h' : Heap} {l : Addr} {xs : Array Value} (q : h.IsList l xs) (e : ∀ o, h.get? l = some o → h'.get? l = some o) : h'.IsList l xs := by
  obtain ⟨o, ho, r⟩ := q
  exact ⟨o, e o ho, r⟩
theorem tIterAt {h h' : Heap} {it l : Addr} {k : Nat} (q : h.IsTupleIter it l k) (e : ∀ o, h.get? it = some o → h'.get? it = some o) : h'.IsTupleIter it l k := by
  obtain ⟨o, ho, r⟩ := q
  exact ⟨o, e o ho, r⟩
theorem wkT {prog : Program} {w : World} {it l : Addr} {xs : Array Value} (ne : l ≠ it) : Wk prog w it l xs fun h k => h.IsTupleIter it l k ∧ h.IsTuple l xs where
  ext := fun q e1 e2 => ⟨tIterAt q.1 e1, tupleAt q.2 e2⟩
  lt := fun q => let ⟨_, e, _⟩ := q.1; Heap.lt_size e
  item := fun q e k => RZ.nextOf_tuple_item q.1 q.2 e fun h' q' sb => k h' ⟨q', tupleAt q.2 fun o z => (sb.2 _ ne).trans z⟩ sb
  stop := fun hh q e k => RZ.nextOf_tuple_end hh q.1 q.2 e k
theorem wkL {prog : Program} {w : World} {it l : Addr} {xs : Array Value} (ne : l ≠ it) : Wk prog w it l xs fun h k => h.IsListIter it l k ∧ h.IsList l xs where
  ext := fun q e1 e2 => ⟨q.1.at e1, listAt q.2 e2⟩
  lt := fun q => let ⟨_, e, _⟩ := q.1; Heap.lt_size e
  item := fun q e k => wpAny_nextOf_list_item q.1 q.2 e fun h' q' sb => k h' ⟨q', listAt q.2 fun o z => (sb.2 _ ne).trans z⟩ sb
  stop := fun hh q e k => wpAny_nextOf_list_end hh q.1 q.2 e k

section
variable {prog : Program} {w : World} {A : Around} {E : Value → Shared → Prop} {s : Shared} {z TI TO i1 i2 l1 l2 : Addr} {k1 k2 : Nat} {xs ys : Array Value} {x y a b : Value} {S1 S2 : Heap → Nat → Prop}
/-- what has been changed so far -/
def Most (z TO i1 i2 : Addr) (h h' : Heap) : Prop := ∀ c o, c ≠ z → c ≠ TO → c ≠ i1 → c ≠ i2 → h.get? c = some o → h'.get? c = some o
theorem two (D : ZipApart z TI TO i1 i2 l1 l2) (W1 : Wk prog w i1 l1 xs S1) (W2 : Wk prog w i2 l2 ys S2) (hz : IsZip s.heap z TI TO .none) (hTI : IsPair s.heap TI (.ref i1) (.ref i2)) (hTO : IsPair s.heap TO a b) (h1 : S1 s.heap k1) (h2 : S2 s.heap k2) {Q : Fin → Shared → Prop}
    (hh : A.handled = none)
    (go : ∀ x y, xs[k1]? = some x → ys[k2]? = some y → ∀ h', IsZip h' z TI TO (rawInt s.heap.objs.size) → IsPair h' TO x y → S1 h' (k1 + 1) → S2 h' (k2 + 1) → IsPair h' s.heap.objs.size x y → h'.objs.size = s.heap.objs.size + 1 → Most z TO i1 i2 s.heap h' →
      Q (.done (.ret (.ref s.heap.objs.size))) { s with heap := h' })
    (out : (xs[k1]? = none ∨ ys[k2]? = none) → ∀ h' e, Most z TO i1 i2 s.heap h' → (∃ o, h'.get? e = some o ∧ o.cls = .type "StopIteration") → E (.ref e) { s with heap := h' }) :
    wpAny (model prog w) A (Builtin.«zip.__next__» ⟨[.ref z], []⟩) Q E s := by
  have f2 : wpAny (model prog w) A (field (.ref z) 2) (fun v s' => v = .bool false ∧ s' = s) E s := wpAny_field hz rfl (x := .bool false) rfl ⟨rfl, rfl⟩
  refine wpAny_bind (m := field (.ref z) 2) (wpAny_mono f2 (fun v s' e => ?_) fun _ _ q => q)
  obtain ⟨rfl, rfl⟩ := e
  refine wpAny_bind (m := field (.ref z) 3) (wpAny_field hz rfl (x := .ref TI) rfl (wpAny_bind (wpAny_seqItems hTI rfl ?_)))
  refine wpAny_bind (m := Builtin.SmallTypes.ownedTupleIsFree (.ref z)) ?_
  unfold Builtin.SmallTypes.ownedTupleIsFree
  refine wpAny_bind (wpAny_field hz rfl (x := .none) rfl (wpAny_pure ?_))
  rw [if_pos rfl]
  refine wpAny_bind (wpAny_rule (wpAny_bind (wpAny_field hz rfl (x := .ref TO) rfl (wpAny_bind (wpAny_setField_rec hz (by simp) fun g1 hz1 sb1 => ?_)))))
  have hz1 : IsZip g1 z TI TO .ellipsis := hz1
  have n1 : S1 g1 k1 := W1.ext h1 (fun o e => (sb1.2 _ D.i1z).trans e) fun o e => (sb1.2 _ D.l1z).trans e
  have n2 : S2 g1 k2 := W2.ext h2 (fun o e => (sb1.2 _ D.i2z).trans e) fun o e => (sb1.2 _ D.l2z).trans e
  have nTO : IsPair g1 TO a b := (sb1.2 _ D.TOz).trans hTO
  have m1 : Most z TO i1 i2 s'.heap g1 := fun c o c1 _ _ _ e => (sb1.2 c c1).trans e
  refine wpAny_bind ?_
  simp only [List.zipIdx_cons, List.zipIdx_nil, List.forIn_cons, List.forIn_nil]
  refine wpAny_bind (wpAny_bind (wpAny_onRaise (wpAny_bind (m := Builtin.SmallTypes.nextOf (.ref i1)) ?_)))
  cases hx : xs[k1]? with
  | none =>
    refine W1.stop hh n1 hx fun g2 e ex he => ?_
    have hz2 : IsZip g2 z TI TO .ellipsis := ex _ _ D.i1z.symm hz1
    obtain ⟨oe, ho, hc⟩ := he
    have ez : e ≠ z := fun q => by rw [q, hz2] at ho; cases ho; simp at hc
    exact wpAny_setField_rec hz2 (by simp) fun g3 _ sb3 => out (.inl hx) g3 e (fun c o c1 c2 c3 c4 q => (sb3.2 c c1).trans (ex _ _ c3 (m1 c o c1 c2 c3 c4 q))) ⟨oe, (sb3.2 _ ez).trans ho, hc⟩
  | some x =>
    refine W1.item n1 hx fun g2 n1' sb2 => wpAny_pure ?_
    have nTO2 : IsPair g2 TO a b := (sb2.2 _ D.TOi1).trans nTO
    refine wpAny_bind (wpAny_seqItems nTO2 rfl (wpAny_bind (wpAny_updateSeq_pair nTO2 fun g3 nTO3 sb3 => wpAny_bind (wpAny_letGo (wpAny_pure ?_)))))
    have nTO3 : IsPair g3 TO x b := nTO3
    have hz3 : IsZip g3 z TI TO .ellipsis := (sb3.2 _ D.TOz.symm).trans ((sb2.2 _ D.i1z.symm).trans hz1)
    have n2' : S2 g3 k2 := W2.ext n2 (fun o e => (sb3.2 _ D.TOi2.symm).trans ((sb2.2 _ D.i12.symm).trans e)) fun o e => (sb3.2 _ D.l2TO).trans ((sb2.2 _ D.l2i1).trans e)
    have m3 : Most z TO i1 i2 s'.heap g3 := fun c o c1 c2 c3 c4 e => (sb3.2 c c2).trans ((sb2.2 c c3).trans (m1 c o c1 c2 c3 c4 e))
    refine wpAny_bind (wpAny_bind (wpAny_onRaise (wpAny_bind (m := Builtin.SmallTypes.nextOf (.ref i2)) ?_)))
    cases hy : ys[k2]? with
    | none =>
      refine W2.stop hh n2' hy fun g4 e ex he => ?_
      have hz4 : IsZip g4 z TI TO .ellipsis := ex _ _ D.i2z.symm hz3
      obtain ⟨oe, ho, hc⟩ := he
      have ez : e ≠ z := fun q => by rw [q, hz4] at ho; cases ho; simp at hc
      exact wpAny_setField_rec hz4 (by simp) fun g5 _ sb5 => out (.inr hy) g5 e (fun c o c1 c2 c3 c4 q => (sb5.2 c c1).trans (ex _ _ c4 (m3 c o c1 c2 c3 c4 q))) ⟨oe, (sb5.2 _ ez).trans ho, hc⟩
    | some y =>
      refine W2.item n2' hy fun g4 n2'' sb4 => wpAny_pure ?_
      have nTO4 : IsPair g4 TO x b := (sb4.2 _ D.TOi2).trans nTO3
      refine wpAny_bind (wpAny_seqItems nTO4 rfl (wpAny_bind (wpAny_updateSeq_pair nTO4 fun g5 nTO5 sb5 => wpAny_bind (wpAny_letGo (wpAny_pure (wpAny_pure ?_))))))
      have nTO5 : IsPair g5 TO x y := nTO5
      have hz5 : IsZip g5 z TI TO .ellipsis := (sb5.2 _ D.TOz.symm).trans ((sb4.2 _ D.i2z.symm).trans hz3)
      have n1'' : S1 g5 (k1 + 1) := W1.ext n1' (fun o e => (sb5.2 _ D.TOi1.symm).trans ((sb4.2 _ D.i12).trans ((sb3.2 _ D.TOi1.symm).trans e))) fun o e => (sb5.2 _ D.l1TO).trans ((sb4.2 _ D.l1i2).trans ((sb3.2 _ D.l1TO).trans e))
      have n2f : S2 g5 (k2 + 1) := W2.ext n2'' (fun o e => (sb5.2 _ D.TOi2.symm).trans e) fun o e => (sb5.2 _ D.l2TO).trans e
      have m5 : Most z TO i1 i2 s'.heap g5 := fun c o c1 c2 c3 c4 e => (sb5.2 c c2).trans ((sb4.2 c c4).trans (m3 c o c1 c2 c3 c4 e))
      have sz : g5.objs.size = s'.heap.objs.size := by rw [sb5.1, sb4.1, sb3.1, sb2.1, sb1.1]
      refine wpAny_bind (wpAny_seqItems nTO5 rfl (wpAny_bind (wpAny_newTuple ?_)))
      refine wpAny_bind (m := Builtin.SmallTypes.ownedTupleHandOut (.ref z) (.ref g5.objs.size)) ?_
      unfold Builtin.SmallTypes.ownedTupleHandOut
      have hz6 : IsZip (g5.push { cls := .type "tuple", data := .seq #[x, y] }) z TI TO .ellipsis := Heap.get?_push_of_some _ hz5
      refine wpAny_bind (wpAny_setField_rec hz6 (by simp) fun g7 hz7 sb7 => ?_)
      have hz7 : IsZip g7 z TI TO (rawInt g5.objs.size) := hz7
      refine wpAny_setField_rec hz7 (by simp) fun g8 hz8 sb8 => wpAny_pure ?_
      have hz8 : IsZip g8 z TI TO (rawInt g5.objs.size) := hz8
      have up : ∀ c o, c ≠ z → g5.get? c = some o → g8.get? c = some o := fun c o c1 e => (sb8.2 c c1).trans ((sb7.2 c c1).trans (Heap.get?_push_of_some _ e))
      have zlt : z < g5.objs.size := Heap.lt_size hz5
      have nT : IsPair g8 g5.objs.size x y := (sb8.2 _ (Nat.ne_of_gt zlt)).trans ((sb7.2 _ (Nat.ne_of_gt zlt)).trans (Heap.get?_push_size _ rfl))
      have s8 : g8.objs.size = g5.objs.size + 1 := by rw [sb8.1, sb7.1, Heap.size_push]
      rw [sz] at hz8 nT s8 ⊢
      exact go x y hx hy g8 hz8 (up _ _ D.TOz nTO5) (W1.ext n1'' (fun o e => up _ o D.i1z e) fun o e => up _ o D.l1z e) (W2.ext n2f (fun o e => up _ o D.i2z e) fun o e => up _ o D.l2z e) nT s8 fun c o c1 c2 c3 c4 e => up c o c1 (m5 c o c1 c2 c3 c4 e)
theorem nextZ (D : ZipApart z TI TO i1 i2 l1 l2) (W1 : Wk prog w i1 l1 xs S1) (W2 : Wk prog w i2 l2 ys S2) (hz : IsZip s.heap z TI TO .none) (hTI : IsPair s.heap TI (.ref i1) (.ref i2)) (hTO : IsPair s.heap TO a b) (h1 : S1 s.heap k1) (h2 : S2 s.heap k2) {Q : Option Value → Shared → Prop}
    (hh : A.handled = none)
    (go : ∀ x y, xs[k1]? = some x → ys[k2]? = some y → ∀ h', IsZip h' z TI TO (rawInt s.heap.objs.size) → IsPair h' TO x y → S1 h' (k1 + 1) → S2 h' (k2 + 1) → IsPair h' s.heap.objs.size x y → h'.objs.size = s.heap.objs.size + 1 → Most z TO i1 i2 s.heap h' →
      Q (some (.ref s.heap.objs.size)) { s with heap := h' })
    (out : (xs[k1]? = none ∨ ys[k2]? = none) → ∀ h', Most z TO i1 i2 s.heap h' → Q none { s with heap := h' }) : wpAny (model prog w) A (pyNext (.ref z)) Q E s := by
  have ty : s.TypeIs (.ref z) "zip" := ⟨_, hz, rfl⟩
  unfold pyNext
  refine wpAny_bind (wpAny_attempt (wpAny_callSpecial?_slot (name := Str.ofString "__next__") ty F.slot_zip_next (wpAny_call_entry F.slot_zip_next ty F.entry_zip_next (two D W1 W2 hz hTI hTO h1 h2 hh (fun x y e1 e2 h' a1 a2 a3 a4 a5 a6 a7 => ?_) fun e h' u m ho => ?_) (F.args_zip_next_1 _))))
  · exact ⟨_, rfl, wpAny_pure (go x y e1 e2 h' a1 a2 a3 a4 a5 a6 a7)⟩
  · obtain ⟨o, ho, hc⟩ := ho
    exact wpAny_bind (wpAny_isInstance (T := "StopIteration") (b := true) ⟨o, ho, hc⟩ isSubtype_stop (wpAny_pure (out e h' m)))
end
/-- the heap behind zip(l1, l2) -/
abbrev zh1 (h : Heap) (l1 : Addr) : Heap := h.push { cls := .type "tuple_iterator", data := .fields #[.ref l1, .int 0 0] }
abbrev zh2 (h : Heap) (l1 l2 : Addr) : Heap := (zh1 h l1).push { cls := .type "list_iterator", data := .fields #[.ref l2, .int 0 0] }
abbrev zh3 (h : Heap) (l1 l2 : Addr) : Heap := (zh2 h l1 l2).push { cls := .type "tuple", data := .seq #[.ref h.objs.size, .ref (zh1 h l1).objs.size] }
abbrev zh4 (h : Heap) (l1 l2 : Addr) : Heap := (zh3 h l1 l2).push { cls := .type "tuple", data := .seq #[.none, .none] }
abbrev zh5 (h : Heap) (l1 l2 : Addr) : Heap := (zh4 h l1 l2).push { cls := .type "zip", data := .fields #[.none, .bool false, .bool false, .ref (zh2 h l1 l2).objs.size, .ref (zh3 h l1 l2).objs.size] }
theorem newZ (l1 l2 : Addr) (xs ys : Array Value) : Meets (Builtin.«zip.__new__» ⟨[.type "zip", .ref l1, .ref l2], []⟩) fun _ R s => s.heap.IsTuple l1 xs ∧ s.heap.IsList l2 ys ∧ R (.ok (.ret (.ref (zh4 s.heap l1 l2).objs.size))) { s with heap := zh5 s.heap l1 l2 } :=
  .of_wp fun prog w A R s h => by
    obtain ⟨hp, g, d, tk, os⟩ := s
    obtain ⟨q1, q2, h⟩ := h
    have hsub := sub_zip
    have q1 : Heap.IsTuple (Shared.heap ⟨hp, g, d, tk, os⟩) l1 xs := q1
    have q2 : Heap.IsList (Shared.heap ⟨hp.push { cls := .type "tuple_iterator", data := .fields #[.ref l1, .int 0 0] }, g, d, tk, os⟩) l2 ys := listAt q2 fun o e => Heap.get?_push_of_some _ e
    wp_walk using wpAny_pyIter_tuple q1, wpAny_pyIter_list q2
    exact ⟨_, rfl, h⟩
theorem callZ {prog : Program} {w : World} {A : Around} {E : Value → Shared → Prop} {s : Shared} {l1 l2 : Addr} {xs ys : Array Value} {Q : Value → Shared → Prop} (q1 : s.heap.IsTuple l1 xs) (q2 : s.heap.IsList l2 ys)
    (h : ∀ h', IsZip h' (s.heap.objs.size + 4) (s.heap.objs.size + 2) (s.heap.objs.size + 3) .none → IsPair h' (s.heap.objs.size + 2) (.ref s.heap.objs.size) (.ref (s.heap.objs.size + 1)) → IsPair h' (s.heap.objs.size + 3) .none .none →
      h'.IsTupleIter s.heap.objs.size l1 0 → h'.IsListIter (s.heap.objs.size + 1) l2 0 → (∀ c o, s.heap.get? c = some o → h'.get? c = some o) → Q (.ref (s.heap.objs.size + 4)) { s with heap := h' }) :
    wpAny (model prog w) A (call (.type "zip") [.ref l1, .ref l2]) Q E s := by
  refine callType_new F.called_zip (by decide) (F.typeCall_zip_2 _ _) (F.newCall_zip_2 _ _) (fun obj => F.args_object_init_3 obj _ _) F.entry_zip_new (newZ l1 l2 xs ys) ⟨q1, q2, ?_⟩
  have n1 : (zh1 s.heap l1).objs.size = s.heap.objs.size + 1 := Heap.size_push ..
  have n2 : (zh2 s.heap l1 l2).objs.size = s.heap.objs.size + 2 := by rw [Heap.size_push, n1]
  have n3 : (zh3 s.heap l1 l2).objs.size = s.heap.objs.size + 3 := by rw [Heap.size_push, n2]
  have n4 : (zh4 s.heap l1 l2).objs.size = s.heap.objs.size + 4 := by rw [Heap.size_push, n3]
  have p : ∀ {hp : Heap} {a : Addr} {o o2 : Obj}, hp.get? a = some o → (hp.push o2).get? a = some o := fun e => Heap.get?_push_of_some _ e
  have e5 : (zh5 s.heap l1 l2).get? (zh4 s.heap l1 l2).objs.size = some _ := Heap.get?_push_size _ rfl
  have e4 : (zh5 s.heap l1 l2).get? (zh3 s.heap l1 l2).objs.size = some _ := p (Heap.get?_push_size _ rfl)
  have e3 : (zh5 s.heap l1 l2).get? (zh2 s.heap l1 l2).objs.size = some _ := p (p (Heap.get?_push_size _ rfl))
  have e2 : (zh5 s.heap l1 l2).get? (zh1 s.heap l1).objs.size = some _ := p (p (p (Heap.get?_push_size _ rfl)))
  have e1 : (zh5 s.heap l1 l2).get? s.heap.objs.size = some _ := p (p (p (p (Heap.get?_push_size _ rfl))))
  show _ ∧ _
  rw [n2, n3, n4] at e5
  rw [n1, n2] at e3
  rw [n3] at e4
  rw [n1] at e2
  rw [n4]
  exact ⟨⟨_, e5, rfl⟩, h _ e5 e3 e4 ⟨_, e1, rfl, rfl⟩ ⟨_, e2, rfl, rfl⟩ fun c o q => p (p (p (p (p q))))⟩

/-- the tuple at a, the list at b, item by item -/
def Itm (K : PySem.W.Frag) (a b : Addr) : It :=
  ⟨fun i H => ∃ (xs ys : List V) (x y : V), SqT K H a xs ∧ SqL K H b ys ∧ xs[i]? = some x ∧ ys[i]? = some y,
    fun i H v H' => ∃ T x y, v = .ref T ∧ H T = none ∧ H' = upd H T (.tup [x, y]) ∧ (∀ xs, SqT K H a xs → xs[i]? = some x) ∧ ∀ ys, SqL K H b ys → ys[i]? = some y,
    fun i H => ∃ xs ys : List V, SqT K H a xs ∧ SqL K H b ys ∧ (xs.length ≤ i ∨ ys.length ≤ i)⟩
theorem turnM {P : Program} {w : World} {K : PySem.W.Frag} {elts : List Expr} {kk : Nat} {tpos : Pos} {a b z TI TO i1 i2 : Addr} (D : ZipApart z TI TO i1 i2 a b) :
    Turn P w K (.Tuple elts kk tpos) (Itm K a b) [z, TI, TO, i1, i2] z fun i h => IsZip h z TI TO .none ∧ IsPair h TI (.ref i1) (.ref i2) ∧ (∃ x y, IsPair h TO x y) ∧ h.IsTupleIter i1 a i ∧ h.IsListIter i2 b i where
  mem := by simp
  obj := fun i h st c hc => by
    obtain ⟨hz, hTI, ⟨x, y, hTO⟩, ⟨o1, e1, _, d1⟩, ⟨o2, e2, _, d2⟩⟩ := st
    simp only [List.mem_cons, List.not_mem_nil, or_false] at hc
    rcases hc with rfl | rfl | rfl | rfl | rfl
    · exact ⟨_, hz, fun v q => nomatch q⟩
    · exact ⟨_, hTI, fun v q => nomatch q⟩
    · exact ⟨_, hTO, fun v q => nomatch q⟩
    · exact ⟨o1, e1, fun v q => by rw [d1] at q; cases q⟩
    · exact ⟨o2, e2, fun v q => by rw [d2] at q; cases q⟩
  keep := fun i h h' st k => by
    obtain ⟨hz, hTI, ⟨x, y, hTO⟩, h1, h2⟩ := st
    exact ⟨k z (by simp) _ hz, k TI (by simp) _ hTI, ⟨x, y, k TO (by simp) _ hTO⟩, tIterAt h1 fun o q => k i1 (by simp) o q, h2.at fun o q => k i2 (by simp) o q⟩
  item := by
    intro X hP hw hK hc i pins s σ H E I hf st hg
    subst hP hw hK
    obtain ⟨hz, hTI, ⟨x0, y0, hTO⟩, h1, h2⟩ := st
    obtain ⟨xs, ys, x, y, qx, qy, hx, hy⟩ := hg
    obtain ⟨its, rv, p, _⟩ := I.tuple qx
    obtain ⟨its2, rv2, p2, _⟩ := I.list qy
    obtain ⟨u, hu, ru⟩ := rv.get hx
    obtain ⟨u2, hu2, ru2⟩ := rv2.get hy
    have zl : z < s.heap.objs.size := Heap.lt_size hz
    have g1 : its.toArray[i]? = some u := by simpa using hu
    have g2 : its2.toArray[i]? = some u2 := by simpa using hu2
    refine nextZ D (wkT D.l1i1) (wkL D.l2i2) hz hTI hTO ⟨h1, p⟩ ⟨h2, p2.isList⟩ (I.ok.hd hc) (fun v v2 f1 f2 h' z' TO' n1 n2 nT sz mo => ?_) fun f => ?_
    · rw [g1] at f1; rw [g2] at f2
      cases f1; cases f2
      refine ⟨_, rfl, wpAny_letOwnedTupleGo_zip (s := { s with heap := h' }) z' fun h2 z2 sb => ?_⟩
      have nT2 : h2.get? s.heap.objs.size = some { cls := .type "tuple", data := .seq #[u, u2] } := (sb.2 _ (Nat.ne_of_gt zl)).trans nT
      have new : ObjOk X.prog X.w (upd H s.heap.objs.size (.tup [x, y])) h2 s.heap.objs.size (.tup [x, y]) := ⟨by show 2 ≤ sizeLine; decide, [u, u2], .cons ru (.cons ru2 .nil), ⟨_, nT2, rfl, _, rfl⟩⟩
      have I1 : Inv X pins σ (upd H s.heap.objs.size (.tup [x, y])) { s with heap := h2 } :=
        I.turnedNew (t' := s.toks) (ch := [z, TI, TO, i1, i2]) (fun c o hb q => (sb.2 c (fun e => hb (by simp [e]))).trans (mo c o (fun e => hb (by simp [e])) (fun e => hb (by simp [e])) (fun e => hb (by simp [e])) (fun e => hb (by simp [e])) q)) hf (Nat.le_refl _) new
      refine ⟨.ref s.heap.objs.size, _, I1, rfl, ⟨_, x, y, rfl, I.hok.fresh (Nat.le_refl _), rfl, fun l hl => by rw [I.tuple_inj hl qx]; exact hx, fun l hl => by rw [I.list_inj hl qy]; exact hy⟩, ⟨z2, ?_, ⟨u, u2, (sb.2 _ D.TOz).trans TO'⟩, tIterAt n1.1 fun o q => (sb.2 _ D.i1z).trans q, n2.1.at fun o q => (sb.2 _ D.i2z).trans q⟩, fun c hcm => ?_⟩
      · exact (sb.2 _ D.TIz).trans (mo _ _ D.TIz D.TITO D.TIi1 D.TIi2 hTI)
      · have lt : c < s.heap.objs.size := by
          simp only [List.mem_cons, List.not_mem_nil, or_false] at hcm
          rcases hcm with rfl | rfl | rfl | rfl | rfl
          · exact zl
          · exact Heap.lt_size hTI
          · exact Heap.lt_size hTO
          · obtain ⟨_, e, _⟩ := h1; exact Heap.lt_size e
          · obtain ⟨_, e, _⟩ := h2; exact Heap.lt_size e
        rw [upd_ne (Nat.ne_of_lt lt)]
        exact (hf c hcm).1
    · rw [g1, g2] at f
      exact f.elim (fun z => nomatch z) fun z => nomatch z
  done := by
    intro X hP hw hK hc i pins s σ H E I hf st hg
    subst hP hw hK
    obtain ⟨hz, hTI, ⟨x0, y0, hTO⟩, h1, h2⟩ := st
    obtain ⟨xs, ys, qx, qy, hend⟩ := hg
    obtain ⟨its, rv, p, _⟩ := I.tuple qx
    obtain ⟨its2, rv2, p2, _⟩ := I.list qy
    have l1 := rv.length
    have l2 := rv2.length
    refine nextZ D (wkT D.l1i1) (wkL D.l2i2) hz hTI hTO ⟨h1, p⟩ ⟨h2, p2.isList⟩ (I.ok.hd hc) (fun v v2 f1 f2 h' _ _ _ _ _ _ _ => ?_) fun f h' mo => ?_
    · have a1 := (Array.getElem?_eq_some_iff.mp f1).1
      have a2 := (Array.getElem?_eq_some_iff.mp f2).1
      rw [List.size_toArray] at a1 a2
      omega
    · exact ⟨rfl, I.turnedL (t' := s.toks) (ch := [z, TI, TO, i1, i2]) (fun c o hb q => mo c o (fun e => hb (by simp [e])) (fun e => hb (by simp [e])) (fun e => hb (by simp [e])) (fun e => hb (by simp [e])) q) hf⟩
  self := fun A i s Q E st h => wpAny_pyIter_zip st.1 h
end UZ

set_option maxRecDepth 100000
set_option maxHeartbeats 4000000
namespace UH
open PySem PySem.Spec PyProof.Rows L2

section
variable {X : Cx} {P : Pr} {E : XK}
/-! ### zip, enumerate -/
def iZip3 (K : PySem.W.Frag) (ta : TA) : TI := fun σ H R => ta σ H fun vs H1 => ∃ a b xs ys, vs = [.ref a, .ref b] ∧ ((SqL K H1 a xs ∧ SqL K H1 b ys ∧ R (Itz K a b) H1) ∨ (SqT K H1 a xs ∧ SqT K H1 b ys ∧ R (RZ.ItzT K a b) H1) ∨ (SqT K H1 a xs ∧ SqL K H1 b ys ∧ R (UZ.Itm K a b) H1))
theorem fresh_fp {pins : List (Addr × Obj)} {σ : L2.St} {H : Hp} {s : Shared} (I : Inv X pins σ H s) {l : List Addr} (h : ∀ c ∈ l, s.heap.objs.size ≤ c) : ∀ c ∈ l, FpOk X pins H c := fun c hc => I.fpOk (h c hc) (I.hok.fresh (h c hc))
theorem five (n : Nat) : ∀ c ∈ [n + 4, n + 2, n + 3, n, n + 1], n ≤ c := fun c hc => by
  simp only [List.mem_cons, List.not_mem_nil, or_false] at hc
  rcases hc with h | h | h | h | h <;> rw [h] <;> first | exact Nat.le_add_right _ _ | exact Nat.le_refl _
theorem pi_zip3 {e e2 : Expr} {ta : TA} {p pos tpos : Pos} {elts : List Expr} {kk : Nat} (hg : Gl X "zip") (hm : X.mg "zip" = none) (ha : PA X [e, e2] ta)
    (hs : starEach [e, e2] X.env = (false, eval e X.env) :: starEach [e2] X.env := by rfl) (hpl : (backTo pos (starEach [e2] X.env)).any (·.1) = false := by rfl) :
    PI X (.Tuple elts kk tpos) (.Call (.Name "zip" p) [e, e2] [] pos) (iZip3 X.K ta) := by
  refine ⟨fun pins s σ H R I h => Call_ (ld_blt I hg hm PyProof.Rows.boot_zip (PyProof.Rows.callWith_type1 (thn (ha.run pos pins s σ H _ I h) fun us s1 q1 => ?_) hs hpl))⟩
  obtain ⟨vs, H1, I1, r1, a, b, xs, ys, ex, q1⟩ := q1
  subst ex
  obtain ⟨u1, u2, rfl, ra, rb⟩ := Vals.two r1
  cases ra; cases rb
  rcases q1 with ⟨qa, qb, q⟩ | ⟨qa, qb, q⟩ | ⟨qa, qb, q⟩
  · obtain ⟨_, _, pa, _⟩ := I1.list qa
    obtain ⟨_, _, pb, _⟩ := I1.list qb
    refine call_zip_2 pa.isList pb.isList fun h' z1 z2 z3 z4 z5 sz hk => wpAny_pyIter_zip z1 ?_
    exact ⟨_, _, _, _, H1, rfl, I1.kept (t' := s1.toks) hk, turn_zip (PySem.W.ktu_apart s1.heap.objs.size a b pa.lt pb.lt), ⟨z1, z2, ⟨_, _, z3⟩, z4, z5⟩, fresh_fp I1 (five _), q⟩
  · obtain ⟨i1, _, pa, _⟩ := I1.tuple qa
    obtain ⟨i2, _, pb, _⟩ := I1.tuple qb
    have la : a < s1.heap.objs.size := let ⟨_, e, _⟩ := pa; Heap.lt_size e
    have lb : b < s1.heap.objs.size := let ⟨_, e, _⟩ := pb; Heap.lt_size e
    refine RZ.call_zipT (show s1.heap.IsTuple a i1.toArray from pa) (show s1.heap.IsTuple b i2.toArray from pb) fun h' z1 z2 z3 z4 z5 sz hk => wpAny_pyIter_zip z1 ?_
    exact ⟨_, _, _, _, H1, rfl, I1.kept (t' := s1.toks) hk, RZ.turn_zipT (PySem.W.ktu_apart s1.heap.objs.size a b la lb), ⟨z1, z2, ⟨_, _, z3⟩, z4, z5⟩, fresh_fp I1 (five _), q⟩
  · obtain ⟨i1, _, pa, _⟩ := I1.tuple qa
    obtain ⟨i2, _, pb, _⟩ := I1.list qb
    have la : a < s1.heap.objs.size := let ⟨_, e, _⟩ := pa; Heap.lt_size e
    refine UZ.callZ (show s1.heap.IsTuple a i1.toArray from pa) pb.isList fun h' z1 z2 z3 z4 z5 hk => wpAny_pyIter_zip z1 ?_
    exact ⟨_, _, _, _, H1, rfl, I1.kept (t' := s1.toks) hk, UZ.turnM (PySem.W.ktu_apart s1.heap.objs.size a b la pb.lt), ⟨z1, z2, ⟨_, _, z3⟩, z4, z5⟩, fresh_fp I1 (five _), q⟩

def zipD (xs ys : List D) : List D := (xs.zip ys).map fun p => .tup [p.1, p.2]
def fZip : List D → Option (List D)
  | [.lst xs, .lst ys] => some (zipD xs ys)
  | [.tup xs, .tup ys] => some (zipD xs ys)
  | [.tup xs, .lst ys] => some (zipD xs ys)
  | _ => none
def miZip (m : MA) : MI := fun env s => (m env s).bind fun ds s => R.ofO (fZip ds) s
theorem zip_some {α β : Type} : ∀ {xs : List α} {ys : List β} {i : Nat} {p : α × β}, (xs.zip ys)[i]? = some p → xs[i]? = some p.1 ∧ ys[i]? = some p.2
  | [], _, _, _, e => by simp at e
  | _ :: _, [], _, _, e => by simp at e
  | x :: xs, y :: ys, 0, p, e => by simp at e; subst e; exact ⟨rfl, rfl⟩
  | x :: xs, y :: ys, i + 1, p, e => by
    have := zip_some (xs := xs) (ys := ys) (i := i) (p := p) (by simpa using e)
    simpa using this
/-- two walked together -/
theorem src_zip {K : PySem.W.Frag} {S1 S2 : Hp → List V → Prop} {xs ys : List D} {pins : List (D × V)}
    (h : ∀ (L : List Addr) (O : Addr → Prop) (H : Hp), (∀ p ∈ pins, WDat P L O H p.1 p.2) → ∃ vs ws, S1 H vs ∧ S2 H ws ∧ DatAll P L O H xs vs ∧ DatAll P L O H ys ws)
    {J : It} (hgo : ∀ i H, (∃ vs ws x y, S1 H vs ∧ S2 H ws ∧ vs[i]? = some x ∧ ws[i]? = some y) → J.go i H) (hy : ∀ i H v H', J.yld i H v H' → ∃ T x y, v = .ref T ∧ H T = none ∧ H' = upd H T (.tup [x, y]) ∧ (∀ vs, S1 H vs → vs[i]? = some x) ∧ ∀ ws, S2 H ws → ws[i]? = some y)
    (hst : ∀ i H, (∃ vs ws : List V, S1 H vs ∧ S2 H ws ∧ (vs.length ≤ i ∨ ws.length ≤ i)) → J.stop i H) : SrcOk P J pins (zipD xs ys) := fun L O H s b hp => by
  obtain ⟨vs, ws, s1, s2, d1, d2⟩ := h L O H hp
  refine ⟨fun i d hd => ?_, hst _ _ ⟨vs, ws, s1, s2, ?_⟩⟩
  · unfold zipD at hd
    rw [List.getElem?_map] at hd
    cases q : (xs.zip ys)[i]? with
    | none => rw [q] at hd; cases hd
    | some p =>
      rw [q] at hd; cases hd
      obtain ⟨e1, e2⟩ := zip_some q
      obtain ⟨v, hv, dv⟩ := d1.get i e1
      obtain ⟨w, hw, dw⟩ := d2.get i e2
      refine ⟨hgo _ _ ⟨vs, ws, v, w, s1, s2, hv, hw⟩, fun x H' y => ?_⟩
      obtain ⟨T, x', y', rfl, hT, rfl, f1, f2⟩ := hy _ _ _ _ y
      have f1 := f1 vs s1
      have f2 := f2 ws s2
      rw [hv] at f1; rw [hw] at f2
      cases f1; cases f2
      exact ⟨Same.upd hT, Dat.newTup b hT (by show 2 ≤ sizeLine; decide) (.cons dv (.cons dw .nil))⟩
  · unfold zipD
    rw [List.length_map, List.length_zip, d1.len, d2.len]
    omega
theorem i_zip {e e2 : Expr} {m : MA} {st : Bool} {p pos tpos : Pos} {elts : List Expr} {kk : Nat} (hK : X.K = P.K) (hg : Gl X "zip") (hm : X.mg "zip" = none) (ha : PA X [e, e2] (tAW P E m)) (hst : st = false := by rfl)
    (hs : starEach [e, e2] X.env = (false, eval e X.env) :: starEach [e2] X.env := by rfl) (hpl : (backTo pos (starEach [e2] X.env)).any (·.1) = false := by rfl) :
    PI X (.Tuple elts kk tpos) (.Call (.Name "zip" p) [e, e2] [] pos) (tI st P E (miZip m)) :=
  (pi_zip3 hg hm ha hs hpl).imp fun σ H R ⟨L, O, B, env, s, rel, q⟩ => ⟨L, O, B, env, s, rel, (Post.bind q).mono fun ds s1 L1 H1 b1 t1 p1 vs hvs => by
    subst hst
    obtain ⟨zs, ez, k⟩ := Post.ofO p1
    have k := k L1 H1 b1 .refl
    unfold fZip at ez
    split at ez
    · rename_i xs ys
      cases ez
      obtain ⟨v, w, rfl, hv, hw⟩ := WDatAll.two hvs
      obtain ⟨a, vs, rfl, q1, z1, r1⟩ := WDat.sql hv
      obtain ⟨b, ws, rfl, q2, z2, r2⟩ := WDat.sql hw
      refine ⟨a, b, vs, ws, rfl, .inl ⟨by rw [hK]; exact q1, by rw [hK]; exact q2, ?_⟩⟩
      refine k _ [(.lst xs, .ref a), (.lst ys, .ref b)] (src_zip (K := P.K) (S1 := fun H vs => SqL P.K H a vs) (S2 := fun H ws => SqL P.K H b ws) (fun L O H hp => ?_) (fun i H h => by rw [hK]; exact h) (fun i H v H' h => by rw [hK] at h; exact h) (fun i H h => by rw [hK]; exact h)) (by unfold zipD; rw [List.length_map, List.length_zip, r1.len]; omega) (fun p hp => ?_)
      · obtain ⟨a', vs', e1, q1, _, r1⟩ := WDat.sql (hp _ List.mem_cons_self)
        obtain ⟨b', ws', e2, q2, _, r2⟩ := WDat.sql (hp _ (List.mem_cons_of_mem _ List.mem_cons_self))
        cases (show V.ref a = _ from e1); cases (show V.ref b = _ from e2)
        exact ⟨vs', ws', q1, q2, r1, r2⟩
      · rcases List.mem_cons.mp hp with e | hp
        · rw [e]; exact hv
        · rw [List.mem_singleton.mp hp]; exact hw
    · rename_i xs ys
      cases ez
      obtain ⟨v, w, rfl, hv, hw⟩ := WDatAll.two hvs
      obtain ⟨a, vs, rfl, q1, z1, r1⟩ := Dat.sqt hv
      obtain ⟨b, ws, rfl, q2, z2, r2⟩ := Dat.sqt hw
      refine ⟨a, b, vs, ws, rfl, .inr (.inl ⟨by rw [hK]; exact q1, by rw [hK]; exact q2, ?_⟩)⟩
      refine k _ [(.tup xs, .ref a), (.tup ys, .ref b)] (src_zip (K := P.K) (S1 := fun H vs => SqT P.K H a vs) (S2 := fun H ws => SqT P.K H b ws) (fun L O H hp => ?_) (fun i H h => by rw [hK]; exact h) (fun i H v H' h => by rw [hK] at h; exact h) (fun i H h => by rw [hK]; exact h)) (by unfold zipD; rw [List.length_map, List.length_zip, r1.len]; omega) (fun p hp => ?_)
      · obtain ⟨a', vs', e1, q1, _, r1⟩ := Dat.sqt (hp _ List.mem_cons_self)
        obtain ⟨b', ws', e2, q2, _, r2⟩ := Dat.sqt (hp _ (List.mem_cons_of_mem _ List.mem_cons_self))
        cases (show V.ref a = _ from e1); cases (show V.ref b = _ from e2)
        exact ⟨vs', ws', q1, q2, r1, r2⟩
      · rcases List.mem_cons.mp hp with e | hp
        · rw [e]; exact hv
        · rw [List.mem_singleton.mp hp]; exact hw
    · rename_i xs ys
      cases ez
      obtain ⟨v, w, rfl, hv, hw⟩ := WDatAll.two hvs
      obtain ⟨a, vs, rfl, q1, z1, r1⟩ := Dat.sqt hv
      obtain ⟨b, ws, rfl, q2, z2, r2⟩ := WDat.sql hw
      refine ⟨a, b, vs, ws, rfl, .inr (.inr ⟨by rw [hK]; exact q1, by rw [hK]; exact q2, ?_⟩)⟩
      refine k _ [(.tup xs, .ref a), (.lst ys, .ref b)] (src_zip (K := P.K) (S1 := fun H vs => SqT P.K H a vs) (S2 := fun H ws => SqL P.K H b ws) (fun L O H hp => ?_) (fun i H h => by rw [hK]; exact h) (fun i H v H' h => by rw [hK] at h; exact h) (fun i H h => by rw [hK]; exact h)) (by unfold zipD; rw [List.length_map, List.length_zip, r1.len]; omega) (fun p hp => ?_)
      · obtain ⟨a', vs', e1, q1, _, r1⟩ := Dat.sqt (hp _ List.mem_cons_self)
        obtain ⟨b', ws', e2, q2, _, r2⟩ := WDat.sql (hp _ (List.mem_cons_of_mem _ List.mem_cons_self))
        cases (show V.ref a = _ from e1); cases (show V.ref b = _ from e2)
        exact ⟨vs', ws', q1, q2, r1, r2⟩
      · rcases List.mem_cons.mp hp with e | hp
        · rw [e]; exact hv
        · rw [List.mem_singleton.mp hp]; exact hw
    · cases ez⟩

def enumD (xs : List D) : List D := xs.zipIdx.map fun p => .tup [.int (p.2 : Int), p.1]
def fEnum : List D → Option (List D)
  | [.lst xs] => some (enumD xs)
  | _ => none
def miEnum (m : MA) : MI := fun env s => (m env s).bind fun ds s => R.ofO (fEnum ds) s
theorem src_enum (ds : List D) (a : Addr) : SrcOk P (Ite P.K a) [(.lst ds, .ref a)] (enumD ds) := fun L O H s b hp => by
  obtain ⟨a', vs, e1, q, _, r⟩ := WDat.sql (hp _ List.mem_cons_self)
  cases (show V.ref a = _ from e1)
  refine ⟨fun i d hd => ?_, vs, q, by unfold enumD; rw [List.length_map, List.length_zipIdx, r.len]; exact Nat.le_refl _⟩
  unfold enumD at hd
  rw [List.getElem?_map, List.getElem?_zipIdx] at hd
  cases e : ds[i]? with
  | none => rw [e] at hd; cases hd
  | some x =>
    rw [e] at hd
    have hd : D.tup [.int ((0 + i : Nat) : Int), x] = d := Option.some.inj hd
    rw [Nat.zero_add] at hd
    subst hd
    obtain ⟨v, hv, dv⟩ := r.get i e
    refine ⟨⟨vs, v, q, hv⟩, fun u H' y => ?_⟩
    obtain ⟨T, x', rfl, hT, rfl, f⟩ := y
    have f := f vs q
    rw [hv] at f; cases f
    exact ⟨Same.upd hT, Dat.newTup b hT (by show 2 ≤ sizeLine; decide) (.cons rfl (.cons dv .nil))⟩
theorem i_enum {e : Expr} {m : ME} {p pos tpos : Pos} {elts : List Expr} {kk : Nat} (hK : X.K = P.K) (hg : Gl X "enumerate") (hm : X.mg "enumerate" = none) (ha : PE X e (tE P E m)) (hs : starEach [e] X.env = [(false, eval e X.env)] := by rfl) :
    PI X (.Tuple elts kk tpos) (.Call (.Name "enumerate" p) [e] [] pos) (tI true P E (miEnum (maCons m maNil))) :=
  (pi_enum hg hm (a_cons ha a_nil hs) hs).imp fun σ H R ⟨L, O, B, env, s, rel, q⟩ => ⟨L, O, B, env, s, rel, (Post.bind q).mono fun ds s1 L1 H1 b1 t1 p1 vs hvs => by
    obtain ⟨zs, ez, k⟩ := Post.ofO p1
    have k := k L1 H1 b1 .refl
    unfold fEnum at ez
    split at ez
    · rename_i xs
      cases ez
      obtain ⟨v, r, rfl, hv, hr⟩ := hvs
      cases (show r = [] from hr)
      obtain ⟨a, vs, rfl, q1, z1, r1⟩ := WDat.sql hv.weak
      refine ⟨a, vs, rfl, by rw [hK]; exact q1, ?_⟩
      rw [hK]
      exact k _ [(.lst xs, .ref a)] (src_enum xs a) (by unfold enumD; rw [List.length_map, List.length_zipIdx, r1.len]; exact z1) fun p hp => by rw [List.mem_singleton.mp hp]; exact hv
    · cases ez⟩
theorem i_enumW {e : Expr} {m : ME} {p pos tpos : Pos} {elts : List Expr} {kk : Nat} (hK : X.K = P.K) (hg : Gl X "enumerate") (hm : X.mg "enumerate" = none) (ha : PE X e (tW P E m)) (hs : starEach [e] X.env = [(false, eval e X.env)] := by rfl) :
    PI X (.Tuple elts kk tpos) (.Call (.Name "enumerate" p) [e] [] pos) (tI false P E (miEnum (maCons m maNil))) :=
  (pi_enum hg hm (aw_cons ha aw_nil hs) hs).imp fun σ H R ⟨L, O, B, env, s, rel, q⟩ => ⟨L, O, B, env, s, rel, (Post.bind q).mono fun ds s1 L1 H1 b1 t1 p1 vs hvs => by
    obtain ⟨zs, ez, k⟩ := Post.ofO p1
    have k := k L1 H1 b1 .refl
    unfold fEnum at ez
    split at ez
    · rename_i xs
      cases ez
      obtain ⟨v, rfl, hv⟩ := WDatAll.one hvs
      obtain ⟨a, vs, rfl, q1, z1, r1⟩ := WDat.sql hv
      refine ⟨a, vs, rfl, by rw [hK]; exact q1, ?_⟩
      rw [hK]
      exact k _ [(.lst xs, .ref a)] (src_enum xs a) (by unfold enumD; rw [List.length_map, List.length_zipIdx, r1.len]; exact z1) fun p hp => by rw [List.mem_singleton.mp hp]; exact hv
    · cases ez⟩
end
end UH

set_option maxRecDepth 100000
set_option maxHeartbeats 4000000
namespace UH
open PySem PySem.Spec PyProof.Rows L2

/-! ### dicts -/
def D.key : D → Option Key
  | .int i => some (.inl i)
  | .str x => some (.inr x)
  | _ => none
def valD (kvs : List (Key × D)) (k : Key) : Option D := (kvs.find? fun kv => decide (kv.1 = k)).map (·.2)
def putD (kvs : List (Key × D)) (k : Key) (v : D) : List (Key × D) := if (kvs.any fun kv => decide (kv.1 = k)) = true then kvs.map (fun kv => if kv.1 = k then (kv.1, v) else kv) else kvs ++ [(k, v)]
def mergeD (kvs more : List (Key × D)) : List (Key × D) := more.foldl (fun acc kv => putD acc kv.1 kv.2) kvs
section
variable {P : Pr} {L : List Addr} {O : Addr → Prop} {H : Hp}
theorem DatKvs.len : ∀ {kvs : List (Key × D)} {ws : List (Key × V)}, DatKvs P L O H kvs ws → kvs.length = ws.length
  | [], _, h => by rw [show _ = [] from h]; rfl
  | (k, d) :: r, _, ⟨v, w, e, _, h⟩ => by rw [e, List.length_cons, List.length_cons, DatKvs.len h]
theorem DatKvs.val (k : Key) : ∀ {kvs : List (Key × D)} {ws : List (Key × V)}, DatKvs P L O H kvs ws → (valD kvs k = none ∧ valV ws k = none) ∨ ∃ d v, valD kvs k = some d ∧ valV ws k = some v ∧ Dat P L O H d v
  | [], _, h => by rw [show _ = [] from h]; exact .inl ⟨rfl, rfl⟩
  | (j, d) :: r, _, ⟨v, w, e, h1, h2⟩ => by
    rw [e]
    by_cases q : j = k
    · exact .inr ⟨d, v, by simp [valD, List.find?_cons, q], valV_pos (p := (j, v)) q, h1⟩
    · rw [valV_neg (p := (j, v)) q, show valD ((j, d) :: r) k = valD r k by simp [valD, List.find?_cons, q]]
      exact DatKvs.val k h2
theorem DatKvs.any (k : Key) : ∀ {kvs : List (Key × D)} {ws : List (Key × V)}, DatKvs P L O H kvs ws → (kvs.any fun kv => decide (kv.1 = k)) = ws.any fun kv => decide (kv.1 = k)
  | [], _, h => by rw [show _ = [] from h]; rfl
  | (j, d) :: r, _, ⟨v, w, e, h1, h2⟩ => by rw [e, List.any_cons, List.any_cons, DatKvs.any k h2]
theorem DatKvs.snoc {k : Key} {d : D} {v : V} (h : Dat P L O H d v) : ∀ {kvs : List (Key × D)} {ws : List (Key × V)}, DatKvs P L O H kvs ws → DatKvs P L O H (kvs ++ [(k, d)]) (ws ++ [(k, v)])
  | [], _, q => by rw [show _ = [] from q]; exact ⟨v, [], rfl, h, rfl⟩
  | (j, _) :: r, _, ⟨u, w, e, h1, h2⟩ => by rw [e]; exact ⟨u, _, rfl, h1, DatKvs.snoc h h2⟩
theorem DatKvs.repl {k : Key} {d : D} {v : V} (h : Dat P L O H d v) : ∀ {kvs : List (Key × D)} {ws : List (Key × V)}, DatKvs P L O H kvs ws → DatKvs P L O H (kvs.map fun kv => if kv.1 = k then (kv.1, d) else kv) (ws.map fun kv => if kv.1 = k then (kv.1, v) else kv)
  | [], _, q => by rw [show _ = [] from q]; rfl
  | (j, _) :: r, _, ⟨u, w, e, h1, h2⟩ => by
    rw [e, List.map_cons, List.map_cons]
    by_cases q : j = k
    · rw [if_pos q, if_pos q]; exact ⟨v, _, rfl, h, DatKvs.repl h h2⟩
    · rw [if_neg q, if_neg q]; exact ⟨u, _, rfl, h1, DatKvs.repl h h2⟩
theorem DatKvs.put {kvs : List (Key × D)} {ws : List (Key × V)} (q : DatKvs P L O H kvs ws) (k : Key) {d : D} {v : V} (h : Dat P L O H d v) : DatKvs P L O H (putD kvs k d) (putK ws k v) := by
  unfold putD putK
  rw [q.any k]
  split
  · exact DatKvs.repl h q
  · exact DatKvs.snoc h q
theorem DatKvs.merge : ∀ {more : List (Key × D)} {mv : List (Key × V)} {kvs : List (Key × D)} {ws : List (Key × V)}, DatKvs P L O H more mv → DatKvs P L O H kvs ws → DatKvs P L O H (mergeD kvs more) (mergeK ws mv)
  | [], _, _, _, h, q => by rw [show _ = [] from h]; exact q
  | (k, d) :: r, _, _, _, ⟨v, w, e, h1, h2⟩, q => by rw [e]; exact DatKvs.merge (more := r) (mv := w) h2 (q.put k h1)
theorem DatKvs.wr {p : Addr} {o : HO} (hp : O p) {d : List (Key × D)} {v : List (Key × V)} (q : DatKvs P L O H d v) : DatKvs P L O (upd H p o) d v :=
  DatKvs.mono (List.prefix_refl _) (fun a u e b n => ⟨by rw [upd_ne (fun z : a = p => n (.inr (by rw [z]; exact hp)))]; exact e, n⟩) d q
theorem DatKvs.less {O' : Addr → Prop} (h : ∀ a, O' a → O a) {d : List (Key × D)} {v : List (Key × V)} (q : DatKvs P L O H d v) : DatKvs P L O' H d v :=
  DatKvs.mono (List.prefix_refl _) (fun a o e b n => ⟨e, fun m => n (m.imp id (h a))⟩) d q
/-- neither a table of code nor code -/
def NoCode (o : HO) : Prop := (∀ ps, o ≠ .tbl ps) ∧ ∀ c q, o ≠ LamX.CodeO c q
theorem tabs_wrX {T : List (Addr × Str)} {p : Addr} {o0 o : HO} (t : LamX.Tabs T H) (h : H p = some o0) (hn : NoCode o0) : LamX.Tabs T (upd H p o) := fun q hq => by
  obtain ⟨ps, h1, h2, h3⟩ := t q hq
  have n1 : q.1 ≠ p := fun z => by rw [z, h] at h1; exact hn.1 ps (Option.some.inj h1)
  refine ⟨ps, by rw [upd_ne n1]; exact h1, h2, fun pos cv hc => ?_⟩
  obtain ⟨c, e1, e2⟩ := h3 pos cv hc
  have n2 : c ≠ p := fun z => by rw [z, h] at e2; exact hn.2 _ _ (Option.some.inj e2)
  exact ⟨c, e1, by rw [upd_ne n2]; exact e2⟩
theorem DatFs.wr {p : Addr} {o : HO} (hp : O p) : ∀ {ds : List (Str × D)} {vs : List (Str × V)}, DatFs P L O H ds vs → DatFs P L O (upd H p o) ds vs
  | [], _, h => h
  | (k, d) :: r, _, ⟨v, w, e, h1, h2⟩ => ⟨v, w, e, h1.wr hp, DatFs.wr hp h2⟩
/-- an owned thing is changed -/
theorem Base.wrX {s : Bxs} (b : Base P L O H s) {p : Addr} {o0 o : HO} (hp : O p) (hl : H p = some o0) (hn : NoCode o0) : Base P L O (upd H p o) s where
  len := b.len
  nd := b.nd
  box := fun n x a e q => by
    have ha : a ≠ p := fun z => b.dis a (List.mem_of_getElem? q) (z ▸ hp)
    have z := b.box n x a e q
    cases x with
    | lst ds => obtain ⟨vs, h1, h2, h3⟩ := z; exact ⟨vs, by rw [upd_ne ha]; exact h1, h2, h3.wr hp⟩
    | ins c f => obtain ⟨dx, vs, h1, h3⟩ := z; exact ⟨dx, vs, by rw [upd_ne ha]; exact h1, h3.wr hp⟩
  dis := b.dis
  live := fun a h z => by
    by_cases e : a = p
    · rw [e, upd_same] at z; cases z
    · rw [upd_ne e] at z; exact b.live a h z
  tabs := tabs_wrX b.tabs hl hn
/-- a new dict -/
theorem Dat.newDic {s : Bxs} (b : Base P L O H s) {p : Addr} (hp : H p = none) {kvs : List (Key × D)} {ws : List (Key × V)} (z : ws.length ≤ sizeLine) (h : DatKvs P L O H kvs ws) : Dat P L O (upd H p (.dK ws)) (.dic kvs) (.ref p) :=
  ⟨p, ws, rfl, ⟨z, .inl upd_same, b.av hp⟩, h.step (.new hp)⟩
end
section
variable {X : Cx} {P : Pr} {E : XK}
def opDGet : D → D → Option D
  | .dic kvs, k => k.key.bind fun k => valD kvs k
  | _, _ => none
def opDIn (neg : Bool) : D → D → Option D
  | k, .dic kvs => k.key.map fun k => .bl (if neg then !(valD kvs k).isSome else (valD kvs k).isSome)
  | _, _ => none
theorem key_V {L : List Addr} {O : Addr → Prop} {H : Hp} {d : D} {v : V} {k : Key} (h : WDat P L O H d v) (e : d.key = some k) : v = kV k := by
  cases d with
  | int i => cases e; exact h
  | str x => cases e; exact h.1
  | _ => cases e
theorem rd_dget {H : Hp} {a : Addr} {ws : List (Key × V)} {k : Key} (e : Rd H a (.dK ws)) : DGet H a (kV k) (valV ws k) := .inl ⟨ws, k, e, rfl, rfl⟩
theorem e_dget {a b : Expr} {ma mb : ME} {pos : Pos} (hu : X.A.units + 1 < cLine) (ha : PE X a (tE P E ma)) (hb : PE X b (tW P E mb)) (hs : NoSl b := by exact fun _ _ => rfl) : PE X (.Subscript a b pos) (tE P E (m2 opDGet ma mb)) :=
  (pe_dget hu ha hb hs).imp fun σ H Q ⟨L, O, B, env, s, rel, q⟩ => ⟨L, O, B, env, s, rel, (Post.bind q).mono fun x s1 L1 H1 b1 t1 p1 v hv => ⟨L1, O, B, env, s1, rel.step b1 t1, (Post.bind p1).mono fun y s2 L2 H2 b2 t2 p2 w hw => by
    obtain ⟨d, e, k⟩ := Post.ofO p2
    unfold opDGet at e
    split at e
    · rename_i kvs
      cases ek : y.key with
      | none => rw [ek] at e; cases e
      | some kk =>
        rw [ek] at e
        have e : valD kvs kk = some d := e
        obtain ⟨a, ws, rfl, ⟨z, r, _⟩, hd⟩ := Dat.step t2 hv
        rcases hd.val kk with ⟨e1, _⟩ | ⟨d', u, e1, e2, hu⟩
        · rw [e] at e1; cases e1
        · rw [e] at e1; cases e1
          exact ⟨a, u, rfl, by rw [key_V hw ek, ← e2]; exact rd_dget r, k L2 H2 b2 .refl u hu⟩
    · cases e⟩⟩
theorem din_of {neg : Bool} {ma mb : ME} {σ : L2.St} {H : Hp} {Q : VK} (h : tE P E (m2 (opDIn neg) ma mb) σ H Q) : (fun σ H Q => (tW P E ma) σ H fun y H1 => (tE P E mb) σ H1 fun x H2 => ∃ a o, x = V.ref a ∧ DGet H2 a y o ∧ Q (.bl (if neg then !o.isSome else o.isSome)) H2) σ H Q := by
  obtain ⟨L, O, B, env, s, rel, q⟩ := h
  refine ⟨L, O, B, env, s, rel, (Post.bind q).mono fun x s1 L1 H1 b1 t1 p1 v hv => ⟨L1, O, B, env, s1, rel.step b1 t1, (Post.bind p1).mono fun y s2 L2 H2 b2 t2 p2 w hw => ?_⟩⟩
  obtain ⟨d, e, k⟩ := Post.ofO p2
  unfold opDIn at e
  split at e
  · rename_i kvs
    cases ek : x.key with
    | none => rw [ek] at e; cases e
    | some kk =>
      rw [ek] at e
      cases e
      obtain ⟨a, ws, rfl, ⟨z, r, _⟩, hd⟩ := hw
      refine ⟨a, valV ws kk, rfl, by rw [key_V hv ek]; exact rd_dget r, ?_⟩
      have : (valV ws kk).isSome = (valD kvs kk).isSome := by
        rcases hd.val kk with ⟨e1, e2⟩ | ⟨d', u, e1, e2, _⟩ <;> rw [e1, e2] <;> rfl
      rw [this]
      exact k L2 H2 b2 .refl _ rfl
  · cases e
theorem din_n {ma mb : ME} {σ : L2.St} {H : Hp} {Q : VK} (h : tE P E (m2 (opDIn true) ma mb) σ H Q) : tDNotIn (tW P E ma) (tE P E mb) σ H Q := din_of h
theorem din_p {ma mb : ME} {σ : L2.St} {H : Hp} {Q : VK} (h : tE P E (m2 (opDIn false) ma mb) σ H Q) : tDIn (tW P E ma) (tE P E mb) σ H Q := din_of h
theorem e_din {a b : Expr} {ma mb : ME} {pos : Pos} (hu : X.A.units + 1 < cLine) (ha : PE X a (tW P E ma)) (hb : PE X b (tE P E mb)) (hm : behindInMarks .In b = false := by rfl) : PE X (.Compare a [.In] [b] pos) (tE P E (m2 (opDIn false) ma mb)) := (pe_cmp (pc_din hu ha hb) hm).imp fun σ H Q h => din_p h
theorem e_dnin {a b : Expr} {ma mb : ME} {pos : Pos} (hu : X.A.units + 1 < cLine) (ha : PE X a (tW P E ma)) (hb : PE X b (tE P E mb)) (hm : behindInMarks .NotIn b = false := by rfl) : PE X (.Compare a [.NotIn] [b] pos) (tE P E (m2 (opDIn true) ma mb)) := (pe_cmp (pc_dnotin hu ha hb) hm).imp fun σ H Q h => din_n h
theorem t_din {a b : Expr} {ma mb : ME} {pos : Pos} (hu : X.A.units + 1 < cLine) (ha : PE X a (tW P E ma)) (hb : PE X b (tE P E mb)) (hm : behindInMarks .In b = false := by rfl) : PT X (.Compare a [.In] [b] pos) (tT P E (mtE (m2 (opDIn false) ma mb))) := (pt_cmp (pc_din hu ha hb) hm).imp fun σ H Q h => tTest_of (t := tDIn (tW P E ma) (tE P E mb)) (fun Q' h => din_p h) h
theorem t_dnin {a b : Expr} {ma mb : ME} {pos : Pos} (hu : X.A.units + 1 < cLine) (ha : PE X a (tW P E ma)) (hb : PE X b (tE P E mb)) (hm : behindInMarks .NotIn b = false := by rfl) : PT X (.Compare a [.NotIn] [b] pos) (tT P E (mtE (m2 (opDIn true) ma mb))) := (pt_cmp (pc_dnotin hu ha hb) hm).imp fun σ H Q h => tTest_of (t := tDNotIn (tW P E ma) (tE P E mb)) (fun Q' h => din_n h) h

/-! displays -/
def mPairs : List (ME × ME) → En → Bxs → R (List (D × D))
  | [], _, s => .ok [] s
  | p :: r, env, s => (p.1 env s).bind fun x s => (p.2 env s).bind fun y s => (mPairs r env s).bind fun l s => .ok ((x, y) :: l) s
def DatPs (P : Pr) (L : List Addr) (O : Addr → Prop) (H : Hp) : List (D × D) → List (V × V) → Prop
  | [], vs => vs = []
  | p :: r, vs => ∃ q t, vs = q :: t ∧ Dat P L O H p.1 q.1 ∧ Dat P L O H p.2 q.2 ∧ DatPs P L O H r t
theorem pairs_of_m : ∀ {ms : List (ME × ME)} {L : List Addr} {O B : Addr → Prop} {σ : L2.St} {H : Hp} {env : En} {s : Bxs} {Q : List (V × V) → Hp → Prop}, Rel P L O H B σ env s →
    Post P L O H E (mPairs ms env s) (fun ps _ L' H' => ∀ vs, DatPs P L' O H' ps vs → Q vs H') → tPairs (ms.map fun p => (tE P E p.1, tE P E p.2)) σ H Q
  | [], L, O, B, σ, H, env, s, Q, rel, p => p L H rel.base .refl [] rfl
  | (mk, mv) :: r, L, O, B, σ, H, env, s, Q, rel, p => ⟨L, O, B, env, s, rel, (Post.bind p).mono fun x s1 L1 H1 b1 t1 p1 v hv => ⟨L1, O, B, env, s1, rel.step b1 t1, (Post.bind p1).mono fun y s2 L2 H2 b2 t2 p2 w hw =>
    pairs_of_m ((rel.step b1 t1).step b2 t2) ((Post.bind p2).mono fun l s3 L3 H3 b3 t3 p3 vs hvs => p3 L3 H3 b3 .refl _ ⟨(v, w), vs, rfl, (hv.step t2).step t3, hw.step t3, hvs⟩)⟩⟩
def keysD : List (D × D) → Option (List (Key × D))
  | [] => some []
  | (x, y) :: r => x.key.bind fun k => (keysD r).map ((k, y) :: ·)
theorem keysD_dat {L : List Addr} {O : Addr → Prop} {H : Hp} : ∀ {ps : List (D × D)} {kvs : List (Key × D)} {vs : List (V × V)}, keysD ps = some kvs → DatPs P L O H ps vs → ∃ ws : List (Key × V), vs = ws.map (fun kv => (kV kv.1, kv.2)) ∧ DatKvs P L O H kvs ws
  | [], kvs, vs, e, h => by cases e; rw [show vs = [] from h]; exact ⟨[], rfl, rfl⟩
  | (x, y) :: r, kvs, vs, e, ⟨q, t, ev, h1, h2, h3⟩ => by
    have e : x.key.bind (fun k => (keysD r).map ((k, y) :: ·)) = some kvs := e
    cases ek : x.key with
    | none => rw [ek] at e; cases e
    | some k =>
      rw [ek] at e
      have e : (keysD r).map ((k, y) :: ·) = some kvs := e
      cases er : keysD r with
      | none => rw [er] at e; cases e
      | some kr =>
        rw [er] at e; cases e
        obtain ⟨ws, e1, e2⟩ := keysD_dat er h3
        obtain ⟨q1, q2⟩ := q
        exact ⟨(k, q2) :: ws, by rw [ev, e1, List.map_cons, show q1 = kV k from key_V h1.weak ek], q2, ws, rfl, h2, e2⟩
def mDic (ms : List (ME × ME)) : ME := fun env s => (mPairs ms env s).bind fun ps s => R.ofO ((keysD ps).map fun kvs => D.dic (mergeD [] kvs)) s
theorem mPairs_len : ∀ {ms : List (ME × ME)} {env : En} {s s' : Bxs} {ps : List (D × D)}, mPairs ms env s = .ok ps s' → ps.length = ms.length
  | [], _, _, _, _, e => by cases e; rfl
  | (a, b) :: r, env, s, s', ps, e => by
    have e : ((a env s).bind fun x s => (b env s).bind fun y s => (mPairs r env s).bind fun l s => R.ok ((x, y) :: l) s) = .ok ps s' := e
    cases h1 : a env s with
    | ok x s1 =>
      rw [h1] at e
      have e : ((b env s1).bind fun y s => (mPairs r env s).bind fun l s => R.ok ((x, y) :: l) s) = .ok ps s' := e
      cases h2 : b env s1 with
      | ok y s2 =>
        rw [h2] at e
        have e : ((mPairs r env s2).bind fun l s => R.ok ((x, y) :: l) s) = .ok ps s' := e
        cases h3 : mPairs r env s2 with
        | ok l s3 =>
          rw [h3] at e
          cases e
          rw [List.length_cons, mPairs_len h3] <;> rfl
        | exc c as s3 => rw [h3] at e; cases e
        | bad => rw [h3] at e; cases e
      | exc c as s3 => rw [h2] at e; cases e
      | bad => rw [h2] at e; cases e
    | exc c as s3 => rw [h1] at e; cases e
    | bad => rw [h1] at e; cases e
theorem keysD_len : ∀ {ps : List (D × D)} {kvs : List (Key × D)}, keysD ps = some kvs → kvs.length = ps.length
  | [], kvs, e => by cases e; rfl
  | (x, y) :: r, kvs, e => by
    have e : x.key.bind (fun k => (keysD r).map ((k, y) :: ·)) = some kvs := e
    cases ek : x.key with
    | none => rw [ek] at e; cases e
    | some k =>
      rw [ek] at e
      have e : (keysD r).map ((k, y) :: ·) = some kvs := e
      cases er : keysD r with
      | none => rw [er] at e; cases e
      | some kr => rw [er] at e; cases e; rw [List.length_cons, List.length_cons, keysD_len er]
theorem p_nil {pos : Pos} : PPs X pos [] [] (([] : List (ME × ME)).map fun p => (tE P E p.1, tE P E p.2)) := pps_nil
theorem p_cons {pos : Pos} {k v : Expr} {ks : List (Option Expr)} {vs : List Expr} {mk mv : ME} {ms : List (ME × ME)} (hk : PE X k (tE P E mk)) (hv : PE X v (tE P E mv)) (hr : PPs X pos ks vs (ms.map fun p => (tE P E p.1, tE P E p.2))) :
    PPs X pos (some k :: ks) (v :: vs) (((mk, mv) :: ms).map fun p => (tE P E p.1, tE P E p.2)) := pps_cons hk hv hr
theorem e_dic {pos : Pos} {keys : List (Option Expr)} {values : List Expr} {ms : List (ME × ME)} (h : PPs X pos keys values (ms.map fun p => (tE P E p.1, tE P E p.2))) (hall : keys.all (·.isSome) = true := by rfl) (hl : keys.length = values.length := by rfl) (h0 : keys ≠ [] := by simp)
    (h15 : keys.length ≤ 15 := by decide) (hms : ms.length ≤ 15 := by decide) : PE X (.Dict keys values pos) (tE P E (mDic ms)) :=
  (pe_disp h hall hl h0 h15).imp fun σ H Q ⟨L, O, B, env, s, rel, q⟩ p hp => by
    have t0 : Step L H L (upd H p (.dK [])) := .new hp
    refine pairs_of_m (rel.newOwn (o := .dK []) hp) ?_
    have q1 := ((Post.bind0 q).step t0).own (O' := Ow O p) fun a h => .inl h
    have hlen : ∀ ps s', mPairs ms env s = .ok ps s' → ps.length ≤ 15 := fun ps s' e => by rw [mPairs_len e]; exact hms
    generalize mPairs ms env s = r at q1 hlen ⊢
    cases r with
    | exc c as s' => exact q1
    | bad => exact q1
    | ok ps s2 =>
      intro L2 H2 b2 t2 vs hvs
      have q2 := q1 L2 H2 b2 t2
      obtain ⟨d, e, k⟩ := Post.ofO q2
      cases ek : keysD ps with
      | none => rw [ek] at e; cases e
      | some kvs =>
        rw [ek] at e; cases e
        obtain ⟨ws, ev, hd⟩ := keysD_dat ek hvs
        have own : Ow O p p := .inr rfl
        have hp2 : H2 p = some (.dK []) := t2.keep p _ upd_same (fun m => rel.base.av hp (.inl m)) fun _ z => nomatch z
        have l15 : ws.length ≤ 15 := by rw [← hd.len, keysD_len ek]; exact hlen ps s2 rfl
        have b3 : Base P L2 O (upd H2 p (.dK (mergeK [] ws))) s2 := (b2.wrX own hp2 ⟨fun _ z => (nomatch z), fun c q z => by unfold LamX.CodeO at z; cases z⟩).less fun a h => .inl h
        have t3 : Step L H L2 (upd H2 p (.dK (mergeK [] ws))) := upd_step (t0.trans t2) hp
        have l3 : (mergeK [] ws).length ≤ sizeLine := by
          have := length_mergeK ws []
          rw [List.length_nil] at this
          rw [sizeLine_eq]; omega
        exact ⟨hp2, ws, ev, l15, k _ _ b3 t3 _ ⟨p, _, rfl, ⟨l3, .inl upd_same, fun m => m.elim (fun m => b2.dis p m own) fun o => rel.base.av hp (.inr o)⟩,
          ((DatKvs.merge hd (kvs := []) (ws := []) rfl).wr own).less fun a h => .inl h⟩⟩
end
end UH

set_option maxRecDepth 100000
set_option maxHeartbeats 4000000
namespace UH
open PySem PySem.Spec PyProof.Rows L2

/-! ### x, *y = a list -/
section
variable {prog : Program} {w : World}
/-- a walk whose first item is taken -/
theorem walk_tail {A : Around} {I : Addr} {fp wr : List Addr} {n : Nat} {Pv : Nat → Value → Prop} {St : Nat → Heap → Prop} (W : Walks prog w A I fp wr (n + 1) Pv St) : Walks prog w A I fp wr n (fun i => Pv (i + 1)) fun i => St (i + 1) where
  sub := W.sub
  frame := fun i => W.frame (i + 1)
  item := fun i s Q E hi => W.item (i + 1) s Q E (Nat.succ_lt_succ hi)
  done := W.done
  self := fun i => W.self (i + 1)
variable {X : Cx} {P : Pr} {F : Frm} {E : XK} {x y : Str} {px py pz pt : Pos} {kk : Nat}
def gStar (K : PySem.W.Frag) (i j : Nat) : TG := fun v σ H Q => ∃ a z t, v = .ref a ∧ SqL K H a (z :: t) ∧ ∀ p, H p = none → Q ((σ.set i (some z)).set j (some (.ref p))) (upd H p (.lst t))
theorem pg_star {i j : Nat} (hc : X.calm = true) (hN : X.N.Nodup) (hi : X.N[i]? = some x) (hj : X.N[j]? = some y) (hx : X.env.scope.names.lookup x = some .local) (hy : X.env.scope.names.lookup y = some .local) :
    PG X (.Tuple [.Name x px, .Starred (.Name y py) pz] kk pt) (gStar X.K i j) := by
  refine ⟨fun pins s σ H v u Q I r hw => ?_⟩
  obtain ⟨a, z, t, rfl, hq, q⟩ := hw
  cases r
  obtain ⟨its, rv, pl, hz⟩ := I.list hq
  cases rv with
  | @cons _ u0 _ ut rz rt =>
    have hl := pl.isList
    have lt : a < s.heap.objs.size := pl.lt
    have ne : a ≠ s.heap.objs.size := Nat.ne_of_lt lt
    have hh := I.ok.hd hc
    rw [PyProof.Rows.assign_Tuple]
    refine wpAny_bind (wpAny_standAt ?_)
    unfold unpack
    refine wpAny_bind (wpAny_holding ?_)
    show wpAny _ _ (unpackItems (.ref a) 2 (some 1)) _ _ _
    unfold unpackItems
    refine wpAny_bind ?_
    unfold notIterableAtAll
    refine wpAny_bind (wpAny_specialOf hl.typeIs slot_list_iter.lookup (wpAny_pure ?_))
    simp only [Bool.false_eq_true, if_false]
    refine wpAny_bind (wpAny_holding (wpAny_pyIter_list hl ?_))
    -- the iterator
    generalize hs1 : ({ s with heap := s.heap.push { cls := .type "list_iterator", data := .fields #[.ref a, .int 0 0] } } : Shared) = s1
    have st1 : s1.heap.IsListIter s.heap.objs.size a 0 := by rw [← hs1]; exact ⟨_, Heap.get?_push_size _ rfl, rfl, rfl⟩
    have k1 : ∀ b o, s.heap.get? b = some o → s1.heap.get? b = some o := fun b o e => by rw [← hs1]; exact Heap.get?_push_of_some _ e
    have hl1 : s1.heap.IsList a (u0 :: ut).toArray := UZ.listAt hl fun o e => k1 a o e
    refine wpAny_bind (wpAny_holding ?_)
    show wpAny _ _ (draw (.ref s.heap.objs.size) 1) _ _ _
    unfold draw
    refine wpAny_bind (wpAny_pyNext_list_item st1 hl1 (x := u0) (by simp) fun h2 st2 sb2 => ?_)
    refine wpAny_bind (wpAny_holding (wpAny_pure (wpAny_pure ?_)))
    rw [if_neg (by simp)]
    have hl2 : h2.IsList a (u0 :: ut).toArray := UZ.listAt hl1 fun o e => (sb2.2 a ne).trans e
    have W := walk_tail (n := ut.length) (Walks.list (prog := X.prog) (w := X.w) (A := X.A.in1) hh s.heap.objs.size a ne (u0 :: ut).toArray)
    have len : ut.length ≤ sizeLine := by
      have := rt.length
      have : (z :: t).length ≤ sizeLine := hz
      rw [List.length_cons] at this
      omega
    refine wpAny_bind (wpAny_holding (wpAny_collect_iter (T := "list_iterator") (.inr (.inr (.inl rfl))) W.toS (fun i s st => st.1.typeIs) ⟨st2, hl2⟩ (fun b hb => ?_) (by simp) (fun s3 acc mv items => ?_) len))
    · have e : h2.objs.size = s1.heap.objs.size := sb2.1
      have e2 : s1.heap.objs.size = s.heap.objs.size + 1 := by rw [← hs1]; exact Heap.size_push ..
      show b < h2.objs.size
      rw [e, e2]
      simp only [List.mem_cons, List.not_mem_nil, or_false] at hb
      rcases hb with hb | hb <;> rw [hb]
      · exact Nat.lt_succ_self _
      · exact Nat.lt_succ_of_lt lt
    · have ea : acc.toList = ut := by
        refine List.ext_getElem? fun i => ?_
        have h1 := items.1
        by_cases hl : i < acc.size
        · have := items.2 i acc[i] (by simp [hl])
          have e1 : acc.toList[i]? = some acc[i] := by simp [hl]
          rw [e1]
          simpa using this.symm
        · rw [List.getElem?_eq_none (by rw [Array.length_toList]; omega), List.getElem?_eq_none (by omega)]
      rw [ea]
      rw [if_neg (by simp)]
      have et : List.take (ut.length - (2 - 1 - 1)) ut = ut := by simp
      have ed : List.drop (ut.length - (2 - 1 - 1)) ut = [] := by simp
      rw [et, ed]
      refine wpAny_bind (wpAny_newObj_type (wpAny_pure ?_) (by show ut.toArray.size ≤ _; rw [List.size_toArray]; exact len))
      have k3 : ∀ b o, s.heap.get? b = some o → s3.heap.get? b = some o := fun b o e => by
        have nb : b ≠ s.heap.objs.size := Nat.ne_of_lt (Heap.lt_size e)
        refine mv.heap b o (by simp [nb]) ?_
        exact (sb2.2 b nb).trans (k1 b o e)
      have e3 : s3 = { s with heap := s3.heap, toks := s3.toks } := by
        have h1 : s3.gens = s1.gens := mv.gens
        have h2 : s3.drawn = s1.drawn := mv.drawn
        have h3 : s3.os = s1.os := mv.os
        rw [← hs1] at h1 h2 h3
        cases s3; cases s
        cases h1; cases h2; cases h3
        rfl
      have I3 : Inv X pins σ H s3 := by
        rw [e3]
        exact I.kept (t' := s3.toks) k3
      have hp := I3.hok.fresh (Nat.le_refl s3.heap.objs.size)
      have I4 := I3.lnew (t' := s3.toks) rt (by
        have : (z :: t).length ≤ sizeLine := hz
        rw [List.length_cons] at this
        omega)
      show wpAny _ _ (assignInOrder [assign (.Name x px) X.env, assign (.Name y py) X.env] [u0, .ref s3.heap.objs.size]) _ _ _
      refine assignInOrder_cons (wpAny_assign_Name (store_ok I4 hN hi (.inl hx) rz (fun s5 I5 => ?_) (.inr hx)))
      refine assignInOrder_cons (wpAny_assign_Name (store_ok (v := V.ref s3.heap.objs.size) I5 hN hj (.inl hy) rfl (fun s6 I6 => ?_) (.inr hy)))
      exact assignInOrder_nil ⟨_, _, I6, q _ hp⟩
/-- .. the rest as data -/
def msStar (i j : Nat) (m : ME) : MS := fun env s => (m env s).bind fun d s => match d with
  | .lst (d :: r) => .ok (.next ((env.set i (.val d)).set j (.val (.lst r)))) s
  | _ => .bad
theorem s_star (i j : Nat) {e : Expr} {m : ME} {pos : Pos} (hK : X.K = P.K) (hc : X.calm = true) (hN : X.N.Nodup) (hx : X.env.scope.names.lookup x = some .local) (hy : X.env.scope.names.lookup y = some .local) (he : PE X e (tW P E m)) (hi : X.N[i]? = some x := by rfl) (hj : X.N[j]? = some y := by rfl)
    (hs : swapsWithSole [.Tuple [.Name x px, .Starred (.Name y py) pz] kk pt] e pos.line X.env = pure false := by rfl) (hw : swappedStores [.Tuple [.Name x px, .Starred (.Name y py) pz] kk pt] e X.env = pure none := by rfl) :
    PS X (.Assign [.Tuple [.Name x px, .Starred (.Name y py) pz] kk pt] e pos) (tS P F E (msStar i j m)) :=
  (ps_asg he (pg_star hc hN hi hj hx hy) hs hw rfl).imp fun D σ H ⟨env, s, ⟨L, O, rel, st, fr, hl, pn⟩, q⟩ => ⟨L, O, F.B, env, s, rel, (to_post rel st q).mono fun d s1 L1 H1 b1 t1 p1 v hv => by
    split at p1
    · rename_i d r
      obtain ⟨a, vs, rfl, q1, z, hd⟩ := hv.sql
      obtain ⟨z0, t, rfl, h1, h2⟩ := hd
      refine ⟨a, z0, t, rfl, by rw [hK]; exact q1, fun p hp => ?_⟩
      have n : Step L1 H1 L1 (upd H1 p (.lst t)) := .new hp
      have hz : t.length ≤ sizeLine := by rw [List.length_cons] at z; omega
      refine p1 _ _ ⟨L1, O, (((rel.step b1 t1).step (b1.new hp) n).setVal rel.len i (h1.step n)).setVal (by rw [List.length_set, List.length_set]; exact rel.len) j (d := .lst r) (Dat.newLst b1 hp hz h2), (st.trans t1).trans n, fr, ?_, fun p hp => ((pn p hp).step t1).step n⟩
      rw [List.length_set, List.length_set, List.length_set, List.length_set]; exact hl
    · exact p1.elim⟩
end
end UH

set_option maxRecDepth 100000
set_option maxHeartbeats 4000000
namespace UH
open PySem PySem.Spec PyProof.Rows L2

/-! ### an exception of the text -/
section
variable {X : Cx} {p p' p1 p2 pos : Pos} {o e : Expr} {es : List Expr} {ta : TA} {x f : Str}
/-- B.__init__(self, ..), B a class of the text whose __init__ is ValueError's -/
theorem pe_oinit {pl : Sem Bool} {C : Addr} {mc : Value} (hg : Gl X x) (hm : X.mg x = some (.ref C)) (hga : PySem.W.specialIn X.K (.ref C) "__getattribute__" = some (some (.builtin "type.__getattribute__"))) (ht : PySem.W.typeIn X.K (.ref C) = some mc) (hr : PySem.W.readsIn X.K C mc = true)
    (hf : PySem.W.findCls X.K (.ref C) mc "__init__" = some (.val (.builtin "ValueError.__init__"))) (ha : PA X (e :: es) ta) (hdb : (x == ("__debug__" : Str)) = false := by decide)
    (hc : eval (.Call (.Attribute (.Name x p1) "__init__" p2) (e :: es) [] pos) X.env = (do
      let ov ← eval (.Name x p1) X.env
      standAt p2.atName
      let (f, first) ← holding [ov] (getMethod ov "__init__" pl)
      callWith pos f first (backTo pos (starEach (e :: es) X.env)) (backToKw pos (keywordEach [] X.env))) := by rfl)
    (he : starEach (e :: es) X.env = (false, eval e X.env) :: starEach es X.env := by rfl) (hpl : (backTo pos (starEach es X.env)).any (·.1) = false := by rfl) :
    PE X (.Call (.Attribute (.Name x p1) "__init__" p2) (e :: es) [] pos) (tVeI X.K ta) := by
  refine ⟨fun pins s σ H Q I h => ?_⟩
  refine PySem.W.methodCall_KW (ld_glob I hg hm ?_ hdb) hc
  obtain ⟨m, fr⟩ := I.fr
  refine PySem.W.method_of_cls fr I.ok.mod.kin hga (PySem.W.cls_val fr I.ok.mod.kin ht hr hf (by decide +kernel) ?_)
  show wpAny _ _ (callWith pos (Value.builtin "ValueError.__init__") [] (backTo pos (starEach (e :: es) X.env)) []) _ _ _
  refine PyProof.Rows.callWith_method1 (thn (ha.run pos pins _ σ H _ (I.tok _) h) fun us s1 ⟨vs, H1, I1, r1, a, C, ws, ev, hl, T, ea, q⟩ => ?_) he hpl
  subst ev
  cases r1 with
  | @cons _ u0 _ ur ra rw' =>
    cases (show u0 = Value.ref a from ra)
    exact oinit_ok T I1 ea (by rw [← Paired.length rw', sizeLine_eq]; omega) fun s' J => ⟨.non, H1, J, rfl, q⟩
/-- the exception at a while its __init__ runs: done is stored -/
def IAt (a C : Addr) (H0 : Hp) (done : List (Str × V)) (H : Hp) : Prop := match done with
  | [] => H = H0 ∧ H0 a = some (exo a C none)
  | fs => ∃ dx, H0 dx = none ∧ dx ≠ a ∧ H a = some (exo a C (some dx)) ∧ H dx = some (exd dx fs) ∧ ∀ b, b ≠ a → b ≠ dx → H b = H0 b
/-- the fields that are stored, and the parameters they come from -/
def puts (l : List (Str × Nat)) (σ : L2.St) (done : List (Str × V)) : List (Str × V) := l.foldl (fun acc p => match σ[p.2]? with
  | some (some y) => (p.1, y) :: acc
  | _ => acc) done
def sInit (K : PySem.W.Frag) (l : List (Str × Nat)) : TS := fun D σ H => ∃ a C H0 done, σ[0]? = some (some (.ref a)) ∧ OexC K C ∧ IAt a C H0 done H ∧ done.length + l.length ≤ 900 ∧
  (∀ p ∈ l, PySem.W.findIn K (.ref C) p.1 = some none ∧ ∃ y, σ[p.2]? = some (some y)) ∧ ∀ H', IAt a C H0 (puts l σ done) H' → D.nx σ H'
theorem si_nil : PSs X [] (sInit X.K []) := pss_nil.imp fun D σ H ⟨a, C, H0, done, h0, T, h, _, _, k⟩ => k H h
theorem si_cons {i : Nat} {l : List (Str × Nat)} {rest : List Stmt} (ho : PE X o (tVar 0)) (he : PE X e (tVar i)) (hr : PSs X rest (sInit X.K l)) (hs : swapsWith e (some (.Attribute o f p')) pos.line X.env = pure false := by rfl) : PSs X (.Assign [.Attribute o f p'] e pos :: rest) (sInit X.K ((f, i) :: l)) :=
  (pss_cons (ps_ost ho he hs) hr).imp fun D σ H ⟨a, C, H0, done, h0, T, h, hl, hf, k⟩ => by
    obtain ⟨hn, y, hy⟩ := hf (f, i) List.mem_cons_self
    have hy : σ[i]? = some (some y) := hy
    have ep : puts ((f, i) :: l) σ done = puts l σ ((f, y) :: done) := by
      show puts l σ _ = _
      simp only [hy]
    rw [ep] at k
    have hf' : ∀ p ∈ l, PySem.W.findIn X.K (.ref C) p.1 = some none ∧ ∃ y, σ[p.2]? = some (some y) := fun p hp => hf p (List.mem_cons_of_mem _ hp)
    refine ⟨y, hy, .ref a, h0, a, C, rfl, T, hn, ?_⟩
    cases done with
    | nil =>
      obtain ⟨rfl, h⟩ := h
      exact .inl ⟨h, fun dx n ne => ⟨a, C, H, [(f, y)], h0, T, ⟨dx, n, ne, upd_same, by rw [upd_ne ne]; exact upd_same, fun b h1 h2 => by rw [upd_ne h1, upd_ne h2]⟩, by simpa [Nat.add_comm] using hl, hf', k⟩⟩
    | cons q fs =>
      obtain ⟨dx, n, ne, e1, e2, e3⟩ := h
      refine .inr ⟨dx, q :: fs, e1, e2, by simp only [List.length_cons] at hl ⊢; omega, a, C, H0, (f, y) :: q :: fs, h0, T, ⟨dx, n, ne, by rw [upd_ne (Ne.symm ne)]; exact e1, upd_same, fun b h1 h2 => by rw [upd_ne h2]; exact e3 b h1 h2⟩, by simp only [List.length_cons] at hl ⊢; omega, hf', k⟩
/-- what such an __init__ promises: the parameters behind self, and the dict that stands at the end -/
def spInit (K : PySem.W.Frag) (C : Addr) (n : Nat) (g : List V → List (Str × V)) : Sp := fun vs H Q _ => ∃ a ws, vs = .ref a :: ws ∧ ws.length = n ∧ H a = some (exo a C none) ∧ ∀ H', IAt a C H (g ws) H' → Q .non H'
end
section
variable {X : Cx} {P : Pr} {F : Frm} {E : XK}
def msRaise (c n : Nat) (g : List D → List D) (m : MA) : MS := fun env s => (m env s).bind fun ds s => if ds.length = n ∧ n ≤ 1000 then .exc c (g ds) s else .bad
/-- raise C(e, ..) -/
theorem s_raise {c n k : Nat} {x : Str} {fI : Addr} {fd : FuncData} {ps : List Str} {m : MA} {gV : List V → List (Str × V)} {g : List D → List D} {e : Expr} {es : List Expr} {p cpos pos : Pos} (hc : X.calm = true) (tk : Takes X fun cls d _ H => E cls d H) (T : OexC X.K (P.ca c))
    (iC : PySem.W.findIn X.K (.ref (P.ca c)) "__init__" = some (some (.ref fI))) (tI : PySem.W.typeIn X.K (.ref fI) = some (.type "function")) (F1 : FnOk X.prog X.w X.K X.mg X.base (L2.CX X.prog X.w) k fI fd ps (spInit X.K (P.ca c) n gV)) (hr : Room (k + 1) X.A) (hb : Binds X.K fd ps [])
    (hg : Gl X x) (hm : X.mg x = some (.ref (P.ca c))) (ha : PA X (e :: es) (tA P E m)) (hne : ∀ ws, ws.length = n → gV ws ≠ [])
    (hG : ∀ {L : List Addr} {O : Addr → Prop} {H : Hp} {ds : List D} {vs : List V}, ds.length = n → DatAll P L O H ds vs → ∃ us, gV vs = (P.flds c).zip us ∧ DatAll P L O H (g ds) us) (hdb : (x == ("__debug__" : Str)) = false := by decide)
    (he : starEach (e :: es) X.env = (false, eval e X.env) :: starEach es X.env := by rfl) (hpl : (backTo cpos (starEach es X.env)).any (·.1) = false := by rfl) : PS X (.Raise (some (.Call (.Name x p) (e :: es) [] cpos)) none pos) (tS P F E (msRaise c n g m)) :=
  (ps_raise (W := fun cls d _ H => E cls d H) hc tk (pmk_oex T iC tI F1 hr hb .nil (fun _ _ _ _ _ _ _ z => by
    obtain ⟨_, _, _, _, _, _, _, _, _, _, _, _, hE⟩ := z
    exact hE.elim) hg hm ha hdb he hpl)).imp fun D σ H ⟨env, s, ⟨L, O, rel, st, fr, hl, pn⟩, q⟩ => ⟨L, O, F.B, env, s, rel, (to_post rel st q).mono fun ds s1 L1 H1 b1 t1 p1 vs hvs => by
    split at p1
    · rename_i hn
      have lv : vs.length = n := by rw [← hvs.len]; exact hn.1
      obtain ⟨us, eg, hus⟩ := hG hn.1 hvs
      refine ⟨by rw [lv]; exact hn.2, fun a na => ⟨a, vs, by rw [List.append_nil], lv, upd_same, fun H2 h2 => ⟨rfl, ?_⟩⟩⟩
      cases ef : gV vs with
      | nil => exact absurd ef (hne vs lv)
      | cons q fs =>
        rw [ef] at h2
        obtain ⟨dx, n0, ne, e1, e2, e3⟩ := h2
        have nd : H1 dx = none := by rw [upd_ne ne] at n0; exact n0
        refine ⟨dx, q :: fs, e1, e2, nd, ?_⟩
        have eH : upd (del H2 a) dx (.xd (q :: fs)) = upd H1 dx (.xd (q :: fs)) := by
          funext b
          by_cases hb : b = dx
          · rw [hb, upd_same, upd_same]
          · rw [upd_ne hb, upd_ne hb]
            by_cases ha : b = a
            · rw [ha, del_same, na]
            · rw [del_ne ha, e3 b ha hb, upd_ne ha]
        rw [eH]
        have w : ExcW P L1 O H1 E c (g ds) s1 := (ExcW.toF p1 rel.out st).step t1
        exact w dx _ L1 us (b1.new nd) (.new nd) (hus.step (.new nd)) (by rw [upd_same, ← ef, eg])
    · exact p1.elim⟩
end
end UH

set_option maxRecDepth 100000
set_option maxHeartbeats 4000000
namespace UH
open PySem PySem.Spec PyProof.Rows L2

/-! ### x(lambda: e), where x tries it and tells what came -/
section
variable {X : Cx} {pins : List (Addr × Obj)} {σ : L2.St} {H : Hp} {s : Shared}
/-- the lambda is made; nothing that stood goes -/
theorem lam_mk {T : List (Addr × Str)} {c Pt : Addr} {params : Arguments} {body : Expr} {scope : Scope} {pos : Pos} {E : Value → Shared → Prop} {Q : Value → Shared → Prop} (I : Inv X pins σ H s) (TB : LamX.TabB X.base X.mg c Pt) (hcode : X.env.code = .ref c)
    (hm : (Pt, X.env.qual ++ "<lambda>") ∈ T) (hu : ∀ p ∈ T, p.1 = Pt → p.2 = X.env.qual ++ "<lambda>") (hT : LamX.Tabs T H) (hdef : defaultsOf params X.env = ([], [])) (hfree : ∀ y ∈ scope.names, y.2 = .free → ∃ c, X.env.cells.lookup y.1 = some c)
    (h : ∀ (f c' : Addr) (pm ctv : Value) (H1 : Hp) (s' : Shared), Inv X pins σ H1 s' → LamX.ExtN H H1 → (∀ b, H b ≠ none → H1 b ≠ none) → LamX.Tabs T H1 →
      s'.heap.get? f = some (PySem.W.kla_obj "<lambda>" (X.env.qual ++ "<lambda>") params body scope (cloFrom X.env.cells scope.names []) pm c' ctv) → H1 f = none → f ∉ frs X.stack → H1 c' = some (LamX.CodeO c' (X.env.qual ++ "<lambda>")) → Q (.ref f) s') :
    wpAny (model X.prog X.w) X.A (eval (.Lambda params body scope pos) X.env) Q E s := by
  obtain ⟨ps, hP, ht, ha⟩ := hT _ hm
  have nofr : ∀ f, s.heap.objs.size ≤ f → f ∉ frs X.stack := fun f hf z => (List.mem_cons.mp (I.stkSub _ z)).elim (fun e => by
    have := I.lt
    rw [← e] at this
    exact Nat.lt_irrefl _ (Nat.lt_of_lt_of_le this hf)) fun e => I.nofs hf e
  refine PySem.W.kla_eval hdef ?_
  cases hc : codeAmong pos ps.toList with
  | some cv =>
    obtain ⟨c', rfl, hco⟩ := ha pos cv hc
    refine PySem.W.kla_makeFunctionHit (mg := X.mg) (c := c) (P := Pt) (ps := ps) (closure_ok hfree) I.ok.glob (I.mod.glob.keeps I.bk) hcode (TB.code.keeps I.bk) (I.hok Pt _ hP) ht hc (TB.bm.keeps I.bk) fun ctv h' tk hx hsz => ?_
    exact h h'.objs.size c' _ ctv H _ (I.kept (t' := tk) fun b o e => Heap.get?_push_of_some _ (hx b o e)) (LamX.ExtN.refl H) (fun _ q => q) hT (Heap.get?_push_size _ rfl) (I.hok.fresh hsz) (nofr _ hsz) hco
  | none =>
    refine PySem.W.kla_makeFunction (mg := X.mg) (c := c) (P := Pt) (ps := ps) (closure_ok hfree) I.ok.glob (I.mod.glob.keeps I.bk) hcode (TB.code.keeps I.bk) (I.hok Pt _ hP) ht hc TB.gP (TB.bm.keeps I.bk) fun c' ctv h' tk hx hge hlt hrec htb => ?_
    obtain ⟨c2, oc, vs, t, e2, hoc, hd, hv⟩ := hrec
    cases e2
    have hsz := Nat.le_trans hge (Nat.le_of_lt hlt)
    have nC : H c' = none := I.hok.fresh hge
    generalize hmore : (#[rawInt pos.line, rawInt pos.col, .ref c'] : Array Value) = more at htb
    have at_ : ∀ b o, H b = some o → b ≠ Pt → upd (upd H Pt (.tbl (ps ++ more))) c' (LamX.CodeO c' (X.env.qual ++ "<lambda>")) b = some o := fun b o e n => by rw [upd_ne (ne_of_none e nC), upd_ne n]; exact e
    have atP : upd (upd H Pt (.tbl (ps ++ more))) c' (LamX.CodeO c' (X.env.qual ++ "<lambda>")) Pt = some (.tbl (ps ++ more)) := by rw [upd_ne (ne_of_none hP nC), upd_same]
    have ext : LamX.ExtN H (upd (upd H Pt (.tbl (ps ++ more))) c' (LamX.CodeO c' (X.env.qual ++ "<lambda>"))) := fun b o e n => at_ b o e fun z => n ps (by rw [z, hP] at e; exact (Option.some.inj e).symm)
    have J := LamX.inv_table (t' := tk) (more := more) (h' := h'.push (PySem.W.kla_obj "<lambda>" (X.env.qual ++ "<lambda>") params body scope (cloFrom X.env.cells scope.names []) ((X.mg "__name__").getD .none) c' ctv)) I hP
      (fun b o hb e => Heap.get?_push_of_some _ (hx b o hb e)) (Heap.get?_push_of_some _ htb) hge ⟨oc, vs, t, Heap.get?_push_of_some _ hoc, hd, hv⟩
    have el : (ps ++ more).toList = ps.toList ++ [rawInt pos.line, rawInt pos.col, .ref c'] := by rw [← hmore]; simp
    refine h h'.objs.size c' _ ctv _ _ J ext (fun b q z => ?_) (fun p hp => ?_) (Heap.get?_push_size _ rfl) ?_ (nofr _ hsz) upd_same
    · by_cases hb : b = Pt
      · rw [hb, atP] at z; cases z
      · cases e : H b with
        | none => exact q e
        | some o => rw [at_ b o e hb] at z; cases z
    · by_cases hb : p.1 = Pt
      · rw [hu p hp hb, hb]
        refine ⟨_, atP, by rw [el]; exact PySem.TriplesOk_snoc _ _ _ _ ht, fun p' cv hcv => ?_⟩
        rw [el] at hcv
        rcases LamX.among_app _ ht hcv with z | z
        · obtain ⟨c0, e1, e2⟩ := ha p' cv z
          exact ⟨c0, e1, ext _ _ e2 LamX.codeO_ne⟩
        · exact ⟨c', z, upd_same⟩
      · obtain ⟨ps', a1, a2, a3⟩ := hT p hp
        refine ⟨ps', at_ _ _ a1 hb, a2, fun p' cv hcv => ?_⟩
        obtain ⟨c0, e1, e2⟩ := a3 p' cv hcv
        exact ⟨c0, e1, ext _ _ e2 LamX.codeO_ne⟩
    · rw [upd_ne (Nat.ne_of_gt hlt), upd_ne (Nat.ne_of_gt (Nat.lt_of_lt_of_le (Heap.lt_size (I.hok Pt _ hP)) hsz))]
      exact I.hok.fresh hsz
/-- .. and called, in the try of the def that got it: what it raises is wished of the frame as it stands -/
theorem act_g {CXg : CXT} {Eg : XK} {Ng : List Str} {qg : Str} {sg : Scope} {g f c' : Addr} {cdg pm ctv : Value} {params : Arguments} {body : Expr} {scope : Scope} {k i : Nat} {a : Str} {pn : List (Addr × Obj)} {xe x0 : Value → Shared → Prop} {W : WX} {tb : XK → TE} {p1 p2 : Pos}
    (I : Inv X pins σ H s) (L : LamX.LamS X.env.scope scope) (hf : s.heap.get? f = some (PySem.W.kla_obj "<lambda>" (X.env.qual ++ "<lambda>") params body scope (cloFrom X.env.cells scope.names []) pm c' ctv)) (hfn : H f = none) (hfr : f ∉ frs X.stack) (hgd : X.A.guards = some [])
    (hbind : bindArgs (PySem.W.kla_fn "<lambda>" (X.env.qual ++ "<lambda>") params body scope (cloFrom X.env.cells scope.names []) pm (.ref c') ctv) ⟨[], []⟩ = pure [])
    (tk : Takes (((cxOf CXg X.prog X.w X.K X.mg X.base Ng qg sg g cdg X.A X.stack s H Eg).wish x0).tr pn xe) W) (hr : Room (k + 1) (X.A.deeper (envOfC qg sg s.heap.objs.size g cdg)))
    (hbody : ∀ (A : Around) (outer : List PySem.Env) (s : Shared) (H : Hp) (E : XK), Room k (A.deeper (LamX.lamEnv X scope s.heap.objs.size f c')) → A.guards = some [] → PE (LamX.lamCx X A outer s H E scope f c') body (tb E))
    (hN : Ng[i]? = some a) (hv : Vis sg a) (hd : (a == ("__debug__" : Str)) = false := by decide) (hcd : (a == ("__classdict__" : Str)) = false := by decide) :
    PE (((cxOf CXg X.prog X.w X.K X.mg X.base Ng qg sg g cdg X.A X.stack s H Eg).wish x0).tr pn xe) (.Call (.Name a p1) [] [] p2)
      (fun σZ HZ Q => σZ[i]? = some (some (.ref f)) ∧ HZ c' = some (LamX.CodeO c' (X.env.qual ++ "<lambda>")) ∧ tb (fun cls d H' => W cls d σZ H') σ HZ Q) := by
  refine ⟨fun pinsZ sZ σZ HZ Q IZ ⟨hs, hc, ht⟩ => ?_⟩
  refine wpAny_Call_Name_kw (thn ((pe_var (pos := p1) (i := i) hN hv hd hcd).run pinsZ sZ σZ HZ (fun v H1 => v = .ref f ∧ H1 = HZ) IZ ⟨.ref f, hs, rfl, rfl⟩) fun u s1 ⟨v, H1, I1, r1, ev, eH⟩ => ?_)
  subst ev eH
  cases (show u = Value.ref f from r1)
  have of1 := I1.base.keep f _ hf hfn hfr (fun z => nomatch (show f ∈ ([] : List Addr) from z))
  refine PySem.W.callWith_F0 ⟨_, _, _, _, of1⟩ ?_
  have un : Un (frs X.stack) [] H H1 s.heap s1.heap := I1.base
  obtain ⟨⟨oc, vs, t, hoc, hdc, hvc⟩, _, _⟩ := I1.hok c' _ hc
  have rc : codeAny (model X.prog X.w) (X.A.deeper (envOfC qg sg s.heap.objs.size g cdg)) (.call (.ref f) ⟨[], []⟩) (CR (L2.CX X.prog X.w) (envOfC qg sg s.heap.objs.size g cdg :: X.stack) X.prog X.w H1 s1 Q (fun cls d H' => W cls d σZ H')) s1 := by
    refine PySem.W.kla_callFunE hr.depth of1 rfl L.co L.gen rfl ⟨c', oc, vs, t, rfl, hoc, hdc, hvc⟩ ?_
    rw [hbind]
    refine wpAny_pure (wpAny_newFunctionEnv (fun y hy => (L.own y hy).2) (fun y hy => absurd hy (by simp)) (fun h₁ hns hsb => ⟨I1.nolimit.fresh _ hsb, ?_⟩) L.kind)
    have kp : ∀ b o, s1.heap.get? b = some o → h₁.get? b = some o := fun b o e => hsb.extBut b o (Nat.ne_of_lt (Heap.lt_size e)) (Heap.get?_push_of_some _ e)
    have J := LamX.lam_start2 (A := X.A.deeper (envOfC qg sg s.heap.objs.size g cdg)) (outer := envOfC qg sg s.heap.objs.size g cdg :: X.stack) (E := fun cls d H' => W cls d σZ H') (scope := scope) (f := f) (c' := c') (tk := s1.toks) I L I1.env0 hr.hd un hns kp
    refine PySem.W.kla_codeExpr (wpAny_mono ((hbody _ _ s1 H1 _ (hr.deeper _) hgd).run [] _ _ H1 Q J ht) (fun v s' hq => ?_) fun e s' hq => hq)
    obtain ⟨w', H', J', rv, q⟩ := hq
    exact ⟨w', H', J'.os, J'.bare, J'.base, J'.hok, rv, q⟩
  refine wpAny_call (codeAny_mono rc fun r s' hq => ?_)
  rcases r with e | (_ | _ | _ | _)
  · exact tk e s' (XE.of_call (W := W) (E := fun cls d H' => W cls d σZ H') I1 (fun cls d H' h => h) hq)
  all_goals first | exact hq.elim | exact I1.after hq
end
/-- the lambda's own context -/
theorem ct_lam {X : Cx} {A : Around} {outer : List PySem.Env} {s : Shared} {H : Hp} {E : XK} {scope : Scope} {f c' : Addr} {k : Nat} (hr : Room k (A.deeper (LamX.lamEnv X scope s.heap.objs.size f c'))) (hg : A.guards = some []) : Ct (LamX.lamCx X A outer s H E scope f c') k E :=
  ⟨hr, hg, passes_call (W := fun cls d _ H => E cls d H) (takes_of rfl rfl rfl rfl) fun _ _ _ _ h => h⟩
theorem tk_lam {X : Cx} {A : Around} {outer : List PySem.Env} {s : Shared} {H : Hp} {E : XK} {scope : Scope} {f c' : Addr} : Tk (LamX.lamCx X A outer s H E scope f c') E := Tk.of rfl rfl (takes_of rfl rfl rfl rfl)
end UH

set_option maxRecDepth 100000
set_option maxHeartbeats 4000000
namespace UH
open PySem PySem.Spec PyProof.Rows L2

section
variable {P : Pr} {L L' : List Addr} {O O' B : Addr → Prop} {H H' : Hp} {s s' : Bxs} {σ : L2.St} {env : En}
/-- all but tables stay -/
theorem Step.extN (e : LamX.ExtN H H') (l : ∀ b, H b ≠ Option.none → H' b ≠ Option.none) : Step L H L H' := ⟨List.prefix_refl _, fun _ h => .inl h, fun a o e2 _ b => e a o e2 b, l⟩
theorem BoxAt.extN (e : LamX.ExtN H H') (l : ∀ b, H b ≠ none → H' b ≠ none) {b : Box} {a : Addr} (h : BoxAt P L O H b a) : BoxAt P L O H' b a := by
  have st : Step L H L H' := .extN e l
  cases b with
  | lst ds => obtain ⟨vs, e1, z, q⟩ := h; exact ⟨vs, e _ _ e1 (fun _ z => nomatch z), z, q.step st⟩
  | ins c fs => obtain ⟨dx, vs, e1, q⟩ := h; exact ⟨dx, vs, e _ _ e1 (fun _ z => nomatch z), q.step st⟩
theorem Base.extN (b : Base P L O H s) (e : LamX.ExtN H H') (l : ∀ b, H b ≠ none → H' b ≠ none) (t : LamX.Tabs P.T H') : Base P L O H' s :=
  ⟨b.len, b.nd, fun n x a e1 q => (b.box n x a e1 q).extN e l, b.dis, fun a o => l a (b.live a o), t⟩
/-- a caller's frame, seen from within what it called -/
theorem Rel.at (r : Rel P L O H B σ env s) (b : Base P L' O' H' s') (t : Step L H L' H') (ho : ∀ a, O a → O' a) (hf : ∀ a, O' a → O a ∨ H a = none) : Rel P L' O' H' B σ env s' where
  base := b
  out := fun a h => ho a (r.out a h)
  len := r.len
  inj := r.inj
  slot := fun i sl e => by
    have q := r.slot i sl e
    cases sl with
    | none => trivial
    | val d => obtain ⟨v, e1, q⟩ := q; exact ⟨v, e1, (q.more hf).step t⟩
    | own ds =>
      obtain ⟨a, vs, e1, n, h1, h2, h3, h4⟩ := q
      exact ⟨a, vs, e1, n, ho a h1, t.keep a _ h2 (fun m => r.base.dis a m h1) (fun _ z => nomatch z), h3, (h4.more hf).step t⟩
end

/-- the fields that an except suite reads of its exception -/
def tFs (a : Addr) (cls : Value) (d : Option Addr) (C : Addr) (i : Nat) : List Str → TA
  | [] => tNil
  | f :: r => tCons (tXf a cls d C f (tVar i)) (tFs a cls d C i r)
/-- the mirror: r the word for a value, hn the word for an exception of the class c, sel what is told of it -/
def mOut (r hn : Str) (c : Nat) (sel : List D → Option (List D)) (mb : ME) : ME := fun env s => match mb env s with
  | .ok d s => .ok (.tup [.str r, d]) s
  | .exc k as s => if k = c then R.ofO ((sel as).map fun ds => .tup (.str hn :: ds)) s else .bad
  | .bad => .bad
section
variable {X : Cx} {P : Pr} {E : XK}
/-- .. of the try within -/
def msTry (f : Addr) (r hn : Str) (c : Nat) (sel : List D → Option (List D)) (mb : ME) (env0 : En) : MS := fun env s => match (env[0]? : Option Sl) with
  | some (Sl.val (D.adr f')) => if f' = f ∧ env.length = 3 then (match mb env0 s with
    | .ok d s => .ok (.next (env.set 1 (.val (.tup [.str r, d])))) s
    | .exc kk as s => if kk = c then (R.ofO (sel as) s).bind fun ds s => .ok (.next ((env.set 1 (.val (.tup (.str hn :: ds)))).set 2 .none)) s else .bad
    | .bad => .bad) else .bad
  | _ => .bad
/-- what an except suite reads, told of the exception's dict -/
theorem tFs_of {C q dd : Addr} {σ : L2.St} {H : Hp} {fs : List (Str × V)} {i : Nat} (hi : σ[i]? = some (some (.ref q))) (hd : H dd = some (.xd fs)) : ∀ {fl : List Str} {ws : List V} {Q : List V → Hp → Prop}, fl.map (fun f => fs.lookup f) = ws.map some → Q ws H → tFs q (.ref C) (some dd) C i fl σ H Q
  | [], ws, Q, e, k => by
    cases ws with
    | nil => exact k
    | cons w r => cases e
  | f :: r, ws, Q, e, k => by
    cases ws with
    | nil => cases e
    | cons w t =>
      rw [List.map_cons, List.map_cons, List.cons.injEq] at e
      exact ⟨_, hi, rfl, rfl, dd, fs, w, rfl, hd, e.1, tFs_of hi hd e.2 k⟩
/-- y = (r, a()), the lambda's value -/
theorem e_out {x a y ex cn r hn : Str} {g c0 Pt : Addr} {c k jr jh : Nat} {pg : Arguments} {sg : Scope} {dV kV doc pm cdv ct oc : Value} {an od : Option Addr} {osl : Array (Option Value)} {e0 : Expr} {es : List Expr} {fl : List Str} {sel : List D → Option (List D)} {m0 mb : ME} {d0 : D}
    {params : Arguments} {body : Expr} {scope : Scope} {p lpos pos p1 p2 p3 p4 p5 p6 p7 p8 p9 p10 p11 p12 p13 p14 p15 p16 p17 : Pos} {k1 k2 : Nat}
    (hg : Gl X x) (hm : X.mg x = some (.ref g)) (hk : PySem.W.keepIn X.K (.ref g) = true)
    (lk : X.K.lookup g = some ⟨oc, od, .func (PySem.W.fnOf x x pg
      [.Assign [.Name y p1] e0 p2, .Try [.Assign [.Name y p3] (.Tuple [.Constant (.str r) jr p4, .Call (.Name a p5) [] [] p6] k1 p7) p8]
        [.ExceptHandler (some (.Name cn p9)) (some ex) [.Assign [.Name y p10] (.Tuple (.Constant (.str hn) jh p11 :: es) k2 p12) p13] p14] [] [] p15, .Return (some (.Name y p16)) p17] sg dV kV doc pm an cdv ct), osl⟩)
    (hcg : PySem.W.codeIn X.K cdv x = true) (hb : L2.Binds X.K (PySem.W.fnOf x x pg
      [.Assign [.Name y p1] e0 p2, .Try [.Assign [.Name y p3] (.Tuple [.Constant (.str r) jr p4, .Call (.Name a p5) [] [] p6] k1 p7) p8]
        [.ExceptHandler (some (.Name cn p9)) (some ex) [.Assign [.Name y p10] (.Tuple (.Constant (.str hn) jh p11 :: es) k2 p12) p13] p14] [] [] p15, .Return (some (.Name y p16)) p17] sg dV kV doc pm an cdv ct) [a] [])
    (Sg : FnScope [a, y, ex] [a] sg) (hN : [a, y, ex].Nodup) (hva : Vis sg a) (hly : sg.names.lookup y = some .local) (hle : sg.names.lookup ex = some .local) (hgc : sg.names.lookup cn = some .globalImplicit) (hdc : (cn == ("__debug__" : Str)) = false) (hmc : X.mg cn = some (.ref (P.ca c)))
    (exm : PySem.W.exmOne X.K (.ref (P.ca c)) (.ref (P.ca c)) = some true)
    (he0 : ∀ (Z : Cx), PE Z e0 (tE P C8.E0 m0)) (hsw : ∀ env, swapsWith e0 (some (.Name y p1)) p2.line env = pure false) (hm0 : ∀ env s, m0 env s = .ok d0 s) (hr0 : sOk r) (hh0 : sOk hn)
    (hfs : ∀ (Z : Cx) (q : Addr) (oe : Obj) (cls : Value) (d : Option Addr) (pn : List (Addr × Obj)), Z.K = X.K → Z.N = [a, y, ex] → Z.env.scope = sg → Zc cls d oe → (∃ vs, oe.data = .fields vs) → PA (Z.suite q ((q, oe) :: pn)) es (tFs q cls d (P.ca c) 2 fl))
    (hsel : ∀ {L : List Addr} {O : Addr → Prop} {H : Hp} {as ds : List D} {vs : List V}, sel as = some ds → DatAll P L O H as vs → ∃ ws, DatAll P L O H ds ws ∧ fl.map (fun f => ((P.flds c).zip vs).lookup f) = ws.map some) (hfl : fl.length ≤ 100)
    (TB : LamX.TabB X.base X.mg c0 Pt) (hcode : X.env.code = .ref c0) (hmT : (Pt, X.env.qual ++ "<lambda>") ∈ P.T) (hu : ∀ p ∈ P.T, p.1 = Pt → p.2 = X.env.qual ++ "<lambda>") (hr : Room (k + 2) X.A) (hgd : X.A.guards = some []) (L : LamX.LamS X.env.scope scope) (hdef : defaultsOf params X.env = ([], []))
    (hbind : ∀ (q : Str) (cl : List (Str × Addr)) (pm cv ctv : Value), bindArgs (PySem.W.kla_fn "<lambda>" q params body scope cl pm cv ctv) ⟨[], []⟩ = pure [])
    (hbody : ∀ (A : Around) (outer : List PySem.Env) (s : Shared) (H : Hp) (E : XK) (f c' : Addr), Room k (A.deeper (LamX.lamEnv X scope s.heap.objs.size f c')) → A.guards = some [] → PE (LamX.lamCx X A outer s H E scope f c') body (tE P E mb))
    (hdb : (x == ("__debug__" : Str)) = false := by decide) (hd : (a == ("__debug__" : Str)) = false := by decide) (hcd : (a == ("__classdict__" : Str)) = false := by decide) (hdy : (y == ("__debug__" : Str)) = false := by decide) (hcy : (y == ("__classdict__" : Str)) = false := by decide) :
    PE X (.Call (.Name x p) [.Lambda params body scope lpos] [] pos) (tE P E (mOut r hn c sel mb)) := by
  refine ⟨fun pins s σ H Q I ⟨L0, O0, B, env0, s0, rel, post⟩ => ?_⟩
  refine wpAny_Call_Name_kw (ld_glob I hg hm ?_ hdb)
  refine PySem.W.callWith_K (h₀ := X.base) I.ok.mod.kin hk ?_ (by rfl) (by rfl)
  show wpAny _ _ (spliced ((false, eval (.Lambda params body scope lpos) X.env) :: backTo pos (starEach [] X.env))) _ _ s
  refine Calls.spliced_cons (lam_mk I TB hcode hmT hu rel.base.tabs hdef (L.has I.ok) fun f c' pm' ctv H1 s' I1 eN lv T1 hf hfn hfr hco => ?_)
  refine Calls.spliced_nil ⟨I1.kIn, ?_⟩
  have st1 : Step L0 H L0 H1 := .extN eN lv
  have b1 : Base P L0 O0 H1 s0 := rel.base.extN eN lv T1
  have cL : c' ∉ L0 := fun m => by
    obtain ⟨n, hn⟩ := List.getElem?_of_mem m
    have hl : n < s0.length := by rw [b1.len]; exact (List.getElem?_eq_some_iff.mp hn).1
    have q := b1.box n s0[n] c' (by simp [hl]) hn
    generalize s0[n] = bx at q
    cases bx with
    | lst ds => obtain ⟨vs, e, _⟩ := q; rw [hco] at e; have := Option.some.inj e; unfold LamX.CodeO at this; cases this
    | ins c fs => obtain ⟨dx, vs, e, _⟩ := q; rw [hco] at e; have := Option.some.inj e; unfold LamX.CodeO at this; cases this
  let F2 : Frm := ⟨L0, H1, O0, []⟩
  -- the frame of x at its start
  have at0 : At P F2 (L2.start [a, y, ex] [.ref f]) H1 [.val (.adr f), .none, .none] s0 := by
    refine ⟨L0, O0, ⟨b1, fun i sl e => ?_, fun i j xs ys a e1 => ?_, fun _ h => h, rfl⟩, .refl, fun a h => .inl h, rfl, fun p hp => absurd hp (by simp [F2])⟩
    · match i with
      | 0 => cases e; exact ⟨.ref f, rfl, rfl⟩
      | 1 => cases e; trivial
      | 2 => cases e; trivial
      | n + 3 => simp at e
    · match i with
      | 0 => cases e1
      | 1 => cases e1
      | 2 => cases e1
      | n + 3 => simp at e1
  have final : SPost P F2 C8.E0 { nx := fun _ H' => Q .non H', rt := Q } (msSeq (msSet 1 m0) (msSeq (msTry f r hn c sel mb env0) (msRet (mVar 1))) [.val (.adr f), .none, .none] s0) := by
    unfold msSeq msSet
    rw [hm0]
    unfold mOut at post
    show SPost _ _ _ _ ((msTry f r hn c sel mb env0 [Sl.val (.adr f), .val d0, .none] s0).bind _)
    unfold msTry
    simp only [List.getElem?_cons_zero, List.length_cons, List.length_nil, and_self, if_true, Nat.zero_add, Nat.reduceAdd]
    cases hmb : mb env0 s0 with
    | bad => rw [hmb] at post; exact post
    | ok d s2 =>
      rw [hmb] at post
      exact fun v H' L' b t hv => post L' H' b (st1.trans t) v hv
    | exc kk as s2 =>
      rw [hmb] at post
      dsimp only at post ⊢
      by_cases hkc : kk = c
      · rw [if_pos hkc] at post ⊢
        cases hs : sel as with
        | none => rw [hs] at post; exact post
        | some ds =>
          rw [hs] at post
          exact fun v H' L' b t hv => post L' H' b (st1.trans t) v hv
      · rw [if_neg hkc] at post; exact post.elim
  have rc : codeAny (model X.prog X.w) X.A (.call (.ref g) ⟨[.ref f], []⟩) (CR C8.CX0 X.stack X.prog X.w H1 s' Q C8.E0) s' := by
    refine LamX.run_ofS (N := [a, y, ex]) (ps := [a]) (us := [.ref f]) (vs := [.ref f]) lk hcg Sg hr I1.env0 (hb s' [.ref f] I1.kIn rfl) (.cons rfl .nil) rfl fun hr' => ?_
    generalize hZ : (cxOf C8.CX0 X.prog X.w X.K X.mg X.base [a, y, ex] x sg g cdv X.A X.stack s' H1 C8.E0) = Z
    have act : ∀ (W : WX) (pn : List (Addr × Obj)) (xe : Value → Shared → Prop), Takes (Z.nox.tr pn xe) W → PE (Z.nox.tr pn xe) (.Call (.Name a p5) [] [] p6)
        fun σZ HZ Q => σZ[0]? = some (some (.ref f)) ∧ HZ c' = some (LamX.CodeO c' (X.env.qual ++ "<lambda>")) ∧ tE P (fun cls d H' => W cls d σZ H') mb σ HZ Q := fun W pn xe tk => by
      subst hZ
      exact act_g (i := 0) (tb := fun E => tE P E mb) I1 L hf hfn hfr hgd (hbind _ _ _ _ _) tk hr' (fun A outer s H E hr2 hg2 => hbody A outer s H E f c' hr2 hg2) rfl hva hd hcd
    have zN : Z.N = [a, y, ex] := by rw [← hZ] <;> rfl
    have zS : Z.env.scope = sg := by rw [← hZ] <;> rfl
    have zK : Z.K = X.K := by rw [← hZ] <;> rfl
    have zm : Z.mg = X.mg := by rw [← hZ] <;> rfl
    have zst : Z.stack = Z.env :: Z.outer := by rw [← hZ] <;> rfl
    have zfr : Z.env.frame = some Z.env.locals := by rw [← hZ] <;> rfl
    have zk : ∀ n, Z.env.kindOf n = sg.names.lookup n := fun n => by rw [← hZ] <;> rfl
    have zc : Z.calm = true := by rw [← hZ] <;> rfl
    have nN : Z.nox.N.Nodup := by show Z.N.Nodup; rw [zN]; exact hN
    have vy : Z.nox.env.scope.names.lookup y = some .local := by show Z.env.scope.names.lookup y = _; rw [zS]; exact hly
    have ve : Z.nox.env.scope.names.lookup ex = some .local := by show Z.env.scope.names.lookup ex = _; rw [zS]; exact hle
    have i1 : Z.nox.N[1]? = some y := by show Z.N[1]? = _; rw [zN]; rfl
    have i2 : Z.nox.N[2]? = some ex := by show Z.N[2]? = _; rw [zN]; rfl
    have s1 : PS Z.nox (.Assign [.Name y p1] e0 p2) (tS P F2 C8.E0 (msSet 1 m0)) := s_set 1 nN (.inl vy) (he0 Z.nox) i1 (hsw _) (.inr vy)
    have s3 : PS Z.nox (.Return (some (.Name y p16)) p17) (tS P F2 C8.E0 (msRet (mVar 1))) := s_ret (e_var 1 (pe_var i1 (.inl vy) hdy hcy))
    have s2 : PS Z.nox (.Try [.Assign [.Name y p3] (.Tuple [.Constant (.str r) jr p4, .Call (.Name a p5) [] [] p6] k1 p7) p8]
        [.ExceptHandler (some (.Name cn p9)) (some ex) [.Assign [.Name y p10] (.Tuple (.Constant (.str hn) jh p11 :: es) k2 p12) p13] p14] [] [] p15) (tS P F2 C8.E0 (msTry f r hn c sel mb env0)) := by
      refine (ps_try_as (X := Z.nox) (Wout := fun _ _ _ _ => False) (c := .ref (P.ca c)) (i := 2)
        (tb := fun W => tAsg (tTup (tCons (tC (.str r)) (tCons (fun σZ HZ Q => σZ[0]? = some (some (.ref f)) ∧ HZ c' = some (LamX.CodeO c' (X.env.qual ++ "<lambda>")) ∧ tE P (fun cls d H' => W cls d σZ H') mb σ HZ Q) tNil))) (gName 1))
        (ts := fun q cls d => tAsg (tTup (tCons (tC (.str hn)) (tFs q cls d (P.ca c) 2 fl))) (gName 1))
        zst zfr nN i2 ?_ ?_ LamX.takes0 (fun W pn xe tk _ => ?_) fun q oe cls d pn hz hf => ?_).imp fun D σ2 H2 h => ?_
      · rw [zk]; exact hle
      · exact ⟨by show Z.env.scope.names.lookup cn = _; rw [zS]; exact hgc, hdc, .inl (by show Z.mg cn = _; rw [zm]; exact hmc)⟩
      · exact pss_one (ps_set (X := Z.nox.tr pn xe) nN i1 (.inl vy) (pe_tup (pa_cons pe_str (pa_cons (act W pn xe tk) pa_nil))) rfl (.inr vy))
      · exact pss_one (ps_set (X := Z.nox.suite q ((q, oe) :: pn)) nN i1 (.inl vy) (pe_tup (pa_cons pe_str (hfs Z.nox q oe cls d pn zK zN zS hz hf))) rfl (.inr vy))
      · obtain ⟨env, s3, ⟨L3, O3, rel3, st3, fr3, hl3, pn3⟩, q⟩ := h
        unfold msTry at q
        split at q
        · rename_i f' e0
          split at q
          · rename_i hc
            obtain ⟨hc, hl⟩ := hc
            subst hc
            obtain ⟨v0, hv0, ev0⟩ := rel3.slot 0 _ e0
            have ev0 : v0 = .ref f' := ev0
            subst ev0
            have hl2 : σ2.length = 3 := by rw [hl3]; exact hl
            refine ⟨hv0, st3.keep c' _ hco cL LamX.codeO_ne, L3, O3, B, env0, s3, rel.at rel3.base (st1.trans st3) rel3.out (fun a o => (fr3 a o).imp id fun z => st1.none z), ?_⟩
            cases hmb : mb env0 s3 with
            | bad => rw [hmb] at q; exact q
            | ok d s4 =>
              rw [hmb] at q
              intro L4 H4 b4 t4 v hv
              refine ⟨by show 2 ≤ sizeLine; decide, fun p hp => ?_⟩
              have n : Step L4 H4 L4 (upd H4 p (.tup [.str r, v])) := .new hp
              have tt := (t4.trans n)
              exact q _ _ ⟨L4, O3, (rel3.step (b4.new hp) tt).setVal hl3 1 (Dat.newTup b4 hp (ds := [.str r, d]) (by show 2 ≤ sizeLine; decide) (.cons ⟨rfl, hr0⟩ (.cons hv .nil))), st3.trans tt, fr3, by rw [List.length_set, List.length_set]; exact hl3, fun p hp => absurd hp (by simp [F2])⟩
            | exc kk as s4 =>
              rw [hmb] at q
              dsimp only at q
              by_cases hkc : kk = c
              · rw [if_pos hkc] at q
                subst hkc
                cases hs : sel as with
                | none => rw [hs] at q; exact q.elim
                | some ds =>
                  rw [hs] at q
                  intro dx H4 L4 vs b4 t4 hd4 hx4
                  obtain ⟨ws, hws, hlk⟩ := hsel hs hd4
                  refine ⟨true, by rw [zK]; exact exm, fun _ q0 nq => ?_, fun h => by cases h⟩
                  have lws : ws.length = fl.length := by
                    have := congrArg List.length hlk
                    rw [List.length_map, List.length_map] at this
                    exact this.symm
                  refine tFs_of (by rw [List.getElem?_set_self (by rw [hl2]; decide)]) hx4 hlk ⟨by rw [List.length_cons, lws, sizeLine_eq]; omega, fun p hp => ?_⟩
                  have n : Step L4 H4 L4 (upd H4 p (.tup (.str hn :: ws))) := .new hp
                  have tt := (t4.trans n)
                  have hz : (V.str hn :: ws).length ≤ sizeLine := by rw [List.length_cons, lws, sizeLine_eq]; omega
                  have r4 := (rel3.step (b4.new hp) tt).setVal hl3 1 (Dat.newTup b4 hp (ds := .str hn :: ds) hz (.cons ⟨rfl, hh0⟩ hws))
                  refine q _ _ ⟨L4, O3, ⟨r4.base, fun i sl e => ?_, fun i j xs ys a e1 e2 e3 e4 => ?_, r4.out, ?_⟩, st3.trans tt, fr3, ?_, fun p hp => absurd hp (by simp [F2])⟩
                  · rcases get_set e with ⟨e1, e2, _⟩ | ⟨e1, e2⟩
                    · rw [e2]; trivial
                    · rw [List.getElem?_set_ne (fun z => e1 z.symm)]
                      have := r4.slot i sl e2
                      rw [List.set_comm _ _ (by decide), List.getElem?_set_ne (fun z => e1 z.symm)]
                      exact this
                  · rcases get_set e1 with ⟨_, z, _⟩ | ⟨n1, q1⟩
                    · cases z
                    · rcases get_set e2 with ⟨_, z, _⟩ | ⟨n2, q2⟩
                      · cases z
                      · rw [List.getElem?_set_ne (fun z => n1 z.symm), List.set_comm _ _ (by decide), List.getElem?_set_ne (fun z => n1 z.symm)] at e3
                        rw [List.getElem?_set_ne (fun z => n2 z.symm), List.set_comm _ _ (by decide), List.getElem?_set_ne (fun z => n2 z.symm)] at e4
                        exact r4.inj i j xs ys a q1 q2 e3 e4
                  · rw [List.length_set, List.length_set, List.length_set, List.length_set, List.length_set]; exact hl3
                  · rw [List.length_set, List.length_set, List.length_set, List.length_set, List.length_set]; exact hl3
              · rw [if_neg hkc] at q; exact q.elim
          · exact q.elim
        · exact q.elim
    exact ⟨_, (ss_cons s1 (ss_cons s2 (ss_one s3))).nox, _, s0, at0, final⟩
  refine wpAny_call (codeAny_mono rc fun r s2 hq => ?_)
  rcases r with e | (_ | _ | _ | _)
  · exact (show False from hq).elim
  all_goals first | exact hq.elim | exact I1.after hq
end
end UH

set_option maxRecDepth 100000
set_option maxHeartbeats 4000000
namespace UH
open PySem PySem.Spec PyProof.Rows L2

section
variable {X : Cx} {P : Pr} {E : XK}
/-! ### a dict of the module, its keys texts -/
def kGet (tb : List (Str × D)) : D → Option D
  | .str z => (tb.find? fun p => decide (p.1 = z)).map (·.2)
  | _ => none
def kIn (neg : Bool) (tb : List (Str × D)) : D → Option D
  | .str z => some (.bl (if neg then !(tb.any fun p => decide (p.1 = z)) else tb.any fun p => decide (p.1 = z)))
  | _ => none
structure KDc (K : PySem.W.Frag) (w : World) (P : Pr) (d : Addr) (tb : List (Str × D)) : Prop where
  kd : ∃ es n, KDict K w d es n
  get : ∀ z, ∃ r, PySem.W.nsIn K d z = some r ∧ r.isSome = (tb.any fun p => decide (p.1 = z))
  val : ∀ z x, (tb.find? fun p => decide (p.1 = z)).map (·.2) = some x → ∃ u v, PySem.W.nsIn K d z = some (some u) ∧ RelV v u ∧ ∀ L O H, Dat P L O H x v
abbrev KD (X : Cx) (P : Pr) (d : Addr) (tb : List (Str × D)) : Prop := KDc X.K X.w P d tb
theorem pe_kdget {d : Addr} {es : Array DictEntry} {n : Nat} {o i : Expr} {to ti : TE} {pos : Pos} (D : KDict X.K X.w d es n) (ho : PE X o to) (hi : PE X i ti) (hs : NoSl i) :
    PE X (.Subscript o i pos) (fun σ H Q => to σ H fun x H1 => ti σ H1 fun y H2 => ∃ (z : Str) (u0 : Value) (v0 : V), x = .ref d ∧ y = .str z ∧ PySem.W.nsIn X.K d z = some (some u0) ∧ RelV v0 u0 ∧ Q v0 H2) := by
  refine ⟨fun pins s σ H Q I h => ?_⟩
  refine subD_of PySem.F.slot_dict_getitem.lookup hs (thn (ho.run pins s σ H _ I h) fun u s1 ⟨x, H1, I1, rx, q1⟩ => thn (hi.run pins s1 σ H1 _ I1 q1) fun iv s2 ⟨y, H2, I2, ry, q2⟩ => ?_)
  have ex : u = .ref d := by
    obtain ⟨z, u0, v0, rfl, _⟩ := q2
    exact rx
  subst ex
  exact ⟨kd_type D I2, op_item_kd D pins s2 σ H2 x y _ iv Q I2 rx ry q2⟩
theorem e_kget {d : Addr} {tb : List (Str × D)} {x : Str} {i : Expr} {m : ME} {p pos : Pos} (K : KD X P d tb) (hg : Gl X x) (hm : X.mg x = some (.ref d)) (hi : PE X i (tW P E m)) (hs : NoSl i := by exact fun _ _ => rfl) (hdb : (x == ("__debug__" : Str)) = false := by decide) :
    PE X (.Subscript (.Name x p) i pos) (tE P E (m1 (kGet tb) m)) := by
  obtain ⟨es, n, D⟩ := K.kd
  refine (pe_kdget D (pe_glob hg hm (show RelV (.ref d) (.ref d) from rfl) hdb) hi hs).imp fun σ H Q ⟨L, O, B, env, s, rel, q⟩ => ?_
  refine ⟨L, O, B, env, s, rel, (Post.bind q).mono fun y s1 L1 H1 b1 t1 p1 v hv => ?_⟩
  obtain ⟨d', e, k⟩ := Post.ofO p1
  unfold kGet at e
  split at e
  · rename_i z
    obtain ⟨u0, v0, e1, r, hd⟩ := K.val z d' e
    exact ⟨z, u0, v0, rfl, hv.1, e1, r, k L1 H1 b1 .refl _ (hd L1 O H1)⟩
  · cases e
theorem kin_of {d : Addr} {tb : List (Str × D)} {neg : Bool} {m : ME} {r : R2} (K : KD X P d tb) (hr : ∀ {y v : V} {H : Hp} {Q : VK}, (∃ (z : Str) (r : Option Value), y = .str z ∧ v = .ref d ∧ PySem.W.nsIn X.K d z = some r ∧ Q (.bl (if neg then !r.isSome else r.isSome)) H) → r y v H Q)
    {σ : L2.St} {H : Hp} {Q : VK} (h : tE P E (m1 (kIn neg tb) m) σ H Q) : tOp r (tW P E m) (tC (.ref d)) σ H Q := by
  obtain ⟨L, O, B, env, s, rel, q⟩ := h
  refine ⟨L, O, B, env, s, rel, (Post.bind q).mono fun y s1 L1 H1 b1 t1 p1 v hv => ?_⟩
  obtain ⟨d', e, k⟩ := Post.ofO p1
  unfold kIn at e
  split at e
  · rename_i z
    cases e
    obtain ⟨r0, e1, e2⟩ := K.get z
    exact hr ⟨z, r0, hv.1, rfl, e1, by rw [e2]; exact k L1 H1 b1 .refl _ rfl⟩
  · cases e
theorem e_kin {d : Addr} {tb : List (Str × D)} {x : Str} {i : Expr} {m : ME} {p pos : Pos} (K : KD X P d tb) (hg : Gl X x) (hm : X.mg x = some (.ref d)) (hi : PE X i (tW P E m)) (hb : behindInMarks .In (.Name x p) = false := by rfl) (hdb : (x == ("__debug__" : Str)) = false := by decide) :
    PE X (.Compare i [.In] [.Name x p] pos) (tE P E (m1 (kIn false tb) m)) := by
  obtain ⟨es, n, D⟩ := K.kd
  exact (pe_cmpR (op_in_kd D) hi (pe_glob hg hm (show RelV (.ref d) (.ref d) from rfl) hdb) hb).imp fun σ H Q => kin_of K fun h => h
theorem t_knin {d : Addr} {tb : List (Str × D)} {x : Str} {i : Expr} {m : ME} {p pos : Pos} (K : KD X P d tb) (hg : Gl X x) (hm : X.mg x = some (.ref d)) (hi : PE X i (tW P E m)) (hb : behindInMarks .NotIn (.Name x p) = false := by rfl) (hdb : (x == ("__debug__" : Str)) = false := by decide) :
    PT X (.Compare i [.NotIn] [.Name x p] pos) (tT P E (mtE (m1 (kIn true tb) m))) := by
  obtain ⟨es, n, D⟩ := K.kd
  exact (pt_cmpR (op_notIn_kd D) hi (pe_glob hg hm (show RelV (.ref d) (.ref d) from rfl) hdb) hb).imp fun σ H Q => tTest_of fun Q' => kin_of K fun h => h
theorem t_kin {d : Addr} {tb : List (Str × D)} {x : Str} {i : Expr} {m : ME} {p pos : Pos} (K : KD X P d tb) (hg : Gl X x) (hm : X.mg x = some (.ref d)) (hi : PE X i (tW P E m)) (hb : behindInMarks .In (.Name x p) = false := by rfl) (hdb : (x == ("__debug__" : Str)) = false := by decide) :
    PT X (.Compare i [.In] [.Name x p] pos) (tT P E (mtE (m1 (kIn false tb) m))) := by
  obtain ⟨es, n, D⟩ := K.kd
  exact (pt_cmpR (op_in_kd D) hi (pe_glob hg hm (show RelV (.ref d) (.ref d) from rfl) hdb) hb).imp fun σ H Q => tTest_of fun Q' => kin_of K fun h => h

/-! ### a local name that holds a def -/
def mCallL (fs : Nat → Option (List D → Bxs → R D)) (n i : Nat) (m : MA) : ME := fun env s => match (env[i]? : Option Sl) with
  | some (Sl.val (D.fn k)) => match fs k with
    | some f => (m env s).bind fun ds s => arity n f ds s
    | none => .bad
  | _ => .bad
theorem e_callL {fs : Nat → Option (List D → Bxs → R D)} {n i j k : Nat} {x : Str} {e : Expr} {es : List Expr} {m : MA} {p pos : Pos} (c : Ct X j E)
    (hF : ∀ q f, fs q = some f → ∃ fd ps, FnG X.prog X.w X.K X.mg X.base k (P.fa q) fd ps (spM P n f) ∧ PySem.W.keepIn X.K (.ref (P.fa q)) = true ∧ Binds X.K fd ps []) (hj : k ≤ j) (hv : PE X (.Name x p) (tVar i)) (ha : PA X (e :: es) (tA P E m))
    (he : starEach (e :: es) X.env = (false, eval e X.env) :: starEach es X.env := by rfl) (hpl : (backTo pos (starEach es X.env)).any (·.1) = false := by rfl) : PE X (.Call (.Name x p) (e :: es) [] pos) (tE P E (mCallL fs n i m)) := by
  refine ⟨fun pins s σ H Q I ⟨L, O, B, env, s0, rel, q⟩ => ?_⟩
  unfold mCallL at q
  split at q
  · rename_i kk e1
    split at q
    · rename_i f ef
      obtain ⟨fd, ps, F, hk, hb⟩ := hF kk f ef
      obtain ⟨v, hs, hv'⟩ := rel.slot i _ e1
      have hv' : v = .ref (P.fa kk) := hv'
      subst hv'
      refine wpAny_Call_Name_kw (thn (hv.run pins s σ H (fun v H1 => v = .ref (P.fa kk) ∧ H1 = H) I ⟨_, hs, rfl, rfl⟩) fun u s1 ⟨v, H1, I1, r1, ev, eH⟩ => ?_)
      subst ev eH
      cases (show u = Value.ref (P.fa kk) from r1)
      refine PySem.W.callWith_K (h₀ := X.base) I.ok.mod.kin hk (thn (ha.run pos pins s1 σ H1 _ I1 (⟨L, O, B, env, s0, rel, (Post.bind q).mono fun ds s2 L2 H2 b2 t2 p2 vs hvs => ?_⟩ : tA P E m σ H1 fun vs H2 => spM P n f (vs ++ []) H2 Q E)) fun us s2 ⟨vs, H2, I2, r, q⟩ => ⟨I2.kIn, run_g c F hj hb .nil I2 r q⟩) he hpl
      show spM P n f (vs ++ []) H2 Q E
      rw [List.append_nil]
      exact sp_of (α := D) (L := L) (H := H1) (s := s0) b2 hvs p2
    · exact q.elim
  · exact q.elim
end
end UH

set_option maxRecDepth 100000
set_option maxHeartbeats 4000000
namespace UH
open PySem PySem.Spec PyProof.Rows L2

/-! ### the law's own call -/
section
variable {Pg : Program} {w : World} {K : PySem.W.Frag} {mg mb : Str → Option Value} {k : Nat} {fa a : Addr} {cs : List (Addr × Addr)} {fd : FuncData} {x : Str} {sp : Sp} {s₁ : Shared} {vs : List Value} {ns : List Int}
/-- what is tracked as the law is called: its script, and the tables -/
def H1of (a : Addr) (vs : List Value) (ns : List Int) (ts : List Addr) : Hp := fun b => if b = a then some (.frz { cls := .type "list", data := .seq vs.toArray } (.lst (ns.map V.int))) else if b ∈ ts then some (.tbl #[]) else none
theorem H1of_some {ts : List Addr} {b : Addr} {u : HO} (h : H1of a vs ns ts b = some u) : (b = a ∧ u = .frz { cls := .type "list", data := .seq vs.toArray } (.lst (ns.map V.int))) ∨ (b ≠ a ∧ b ∈ ts ∧ u = .tbl #[]) := by
  unfold H1of at h
  split at h
  · rename_i e; cases h; exact .inl ⟨e, rfl⟩
  · rename_i e
    split at h
    · rename_i m; cases h; exact .inr ⟨e, m, rfl⟩
    · cases h
theorem law_callG (KX : K.In s₁.heap) (hns : s₁.heap.Ns mainGlobals mg) (hb : s₁.heap.Ns builtinsNs mb) (hbb : ∀ x : Str, x ≠ "__name__" → mb x = bootBuiltins x) (hlim : s₁.heap.NoLimit) (hg : s₁.gens = #[])
    (hT : ∀ p ∈ cs, s₁.heap.get? p.2 = some { cls := .none, data := .fields #[] }) (nT : ∀ p ∈ cs, K.lookup p.2 = none) (C : ∀ p ∈ cs, PySem.W.CodeHd s₁.heap p.1 p.2)
    (hbm : ∃ (bm : Addr) (ob : Obj), mg "__builtins__" = some (.ref bm) ∧ bm ≠ builtinsNs ∧ s₁.heap.get? bm = some ob ∧ ob.cls = .type "module" ∧ ob.dict = some builtinsNs ∧ ob.data = .plain)
    (ha : s₁.heap.get? a = some { cls := .type "list", data := .seq vs.toArray }) (nA : K.lookup a = none) (hi : IntsAre vs ns) (hl : ns.length ≤ sizeLine) (hr : Room k callerA)
    (F : ∀ base : Heap, K.In base → base.Ns mainGlobals mg → (∀ p ∈ cs, LamX.TabB base mg p.1 p.2) → FnG Pg w K mg base k fa fd [x] sp) (hbind : ∀ (s : Shared) (u : Value), BindsTo s fd ⟨[u], []⟩ [(x, u)])
    (hsp : ∀ H : Hp, (∀ p ∈ cs, H p.2 = some (.tbl #[])) → Rd H a (.lst (ns.map V.int)) → sp [.ref a] H (fun v _ => v = .bl true) fun _ _ _ => False) :
    codeAny (model Pg w) callerA (.call (.ref fa) ⟨[.ref a], []⟩) (fun r s' => r = .ok (.ret (.bool true)) ∧ OldK s₁.heap s'.heap ∧ s'.os = s₁.os ∧ AllBare s'.gens) s₁ := by
  generalize hts : cs.map (·.2) = ts
  have inT : ∀ p ∈ cs, p.2 ∈ ts := fun p hp => by rw [← hts]; exact List.mem_map.mpr ⟨p, hp, rfl⟩
  have ofT : ∀ b ∈ ts, ∃ p ∈ cs, p.2 = b := fun b hb => by rw [← hts] at hb; exact List.mem_map.mp hb
  have tab : ∀ b ∈ ts, s₁.heap.get? b = some { cls := .none, data := .fields #[] } := fun b hb => by
    obtain ⟨p, hp, rfl⟩ := ofT b hb
    exact hT p hp
  have aT : a ∉ ts := fun z => by
    have q := (tab a z).symm.trans ha
    have := congrArg Obj.data (Option.some.inj q)
    cases this
  generalize hH : H1of a vs ns ts = H
  have some_ : ∀ {b : Addr} {u : HO}, H b = some u → (b = a ∧ u = .frz { cls := .type "list", data := .seq vs.toArray } (.lst (ns.map V.int))) ∨ (b ≠ a ∧ b ∈ ts ∧ u = .tbl #[]) := fun {b u} e => H1of_some (by rw [hH]; exact e)
  have Ha : H a = some (.frz { cls := .type "list", data := .seq vs.toArray } (.lst (ns.map V.int))) := by rw [← hH]; exact if_pos rfl
  have Ht : ∀ b ∈ ts, H b = some (.tbl #[]) := fun b hb => by rw [← hH]; exact (if_neg (fun z : b = a => aT (z ▸ hb))).trans (if_pos hb)
  -- neither the script nor a table
  have free : ∀ {b : Addr} {o : Obj}, s₁.heap.get? b = some o → (∀ xs n, o.data ≠ .seq xs n) → o.data ≠ .fields #[] → H b = none := fun {b o} e h1 h2 => by
    cases q : H b with
    | none => rfl
    | some u =>
      rcases some_ q with ⟨rfl, _⟩ | ⟨_, m, _⟩
      · rw [ha] at e; cases e; exact (h1 _ _ rfl).elim
      · rw [tab b m] at e; cases e; exact (h2 rfl).elim
  have ns_ : ∀ {b : Addr} {m : Str → Option Value}, s₁.heap.Ns b m → (hidT s₁.heap H).Ns b m := fun {b m} ⟨o, es, ep, e, d, r⟩ => ⟨o, es, ep, hidT_get e (free e (fun xs n z => by rw [d] at z; cases z) fun z => by rw [d] at z; cases z), d, r⟩
  have KB : K.In (hidT s₁.heap H) := fun b o e => hidT_get (KX b o e) (by
    cases q : H b with
    | none => rfl
    | some u =>
      rcases some_ q with ⟨rfl, _⟩ | ⟨_, m, _⟩
      · rw [nA] at e; cases e
      · obtain ⟨p, hp, rfl⟩ := ofT b m
        rw [nT p hp] at e; cases e)
  have hok : HOk Pg w H s₁.heap := fun b u z => by
    rcases some_ z with ⟨rfl, rfl⟩ | ⟨_, m, rfl⟩
    · exact ⟨ha, by rw [List.length_map]; exact hl, vs, _, vals_ints hi, ha⟩
    · exact tab b m
  have TB : ∀ p ∈ cs, LamX.TabB (hidT s₁.heap H) mg p.1 p.2 := fun p hp => by
    have tp := hT p hp
    obtain ⟨oG, eG, pG, gG, dG, rG⟩ := hns
    refine ⟨?_, ?_, fun z => by rw [z, tp] at gG; cases gG; cases dG⟩
    · obtain ⟨o, us, file, tf, flags, tg, inF, text, tt, e1, r1, r2, r3, r4⟩ := C p hp
      exact ⟨o, us, file, tf, flags, tg, inF, text, tt, hidT_get e1 (free e1 (fun xs n z => by rw [r2] at z; cases z) fun z => by rw [r2] at z; cases z; simp at r3), r1, r2, r3, r4⟩
    · obtain ⟨bm, ob, b1, b2, b3, b4, b5, b6⟩ := hbm
      exact ⟨bm, ob, b1, b2, (fun z => by rw [z, gG] at b3; cases b3; rw [dG] at b6; cases b6), (fun z => by rw [z, tp] at b3; cases b3; cases b6), hidT_get b3 (free b3 (fun xs n z => by rw [b6] at z; cases z) fun z => by rw [b6] at z; cases z), b4, b5, b6⟩
  have M0 : L2.Mod K mg (hidT s₁.heap H) := ⟨KB, ns_ hns, ⟨mb, ns_ hb, hbb⟩, let ⟨mc, h1, h2⟩ := hlim; ⟨mc, ns_ h1, h2⟩⟩
  have e0 : Env0 Pg w K mg (hidT s₁.heap H) callerA [] s₁ H := ⟨rfl, M0, fun b o e => of_hidT e, Nat.le_of_eq (hidT_size _ _), trivial, fun b hb => absurd (show b ∈ ([] : List Addr) from hb) (by simp), hok, .of_eq hg⟩
  refine codeAny_mono ((F _ KB (ns_ hns) TB).run callerA [] s₁ H ⟨[.ref a], []⟩ [.ref a] [.ref a] _ _ hr rfl e0 (hbind s₁ (.ref a)) (.cons rfl .nil) (hsp H (fun p hp => Ht _ (inT p hp)) (.inr ⟨_, Ha⟩))) fun r s' h => ?_
  rcases r with e | (_ | _ | _ | u)
  · obtain ⟨_, _, _, _, _, _, _, _, _, _, _, _, hE⟩ := h
    exact hE.elim
  · exact h.elim
  · exact h.elim
  · exact h.elim
  · obtain ⟨v, H', os, bare, un, hok', r', q⟩ := h
    cases (show v = .bl true from q)
    cases (show u = Value.bool true from r')
    have more : ∀ p ∈ cs, ∃ xs : Array Value, s'.heap.get? p.2 = some { cls := .none, data := .fields xs } := fun p hp => by
      obtain ⟨xs, z⟩ := un.tbls p.2 #[] (Ht _ (inT p hp))
      exact ⟨_, hok' p.2 _ z⟩
    have same : ∀ b o, b ∉ ts → s₁.heap.get? b = some o → s'.heap.get? b = some o := fun b o nb e => by
      cases q : H b with
      | none => exact un.keep b o e q (fun z => nomatch (show b ∈ ([] : List Addr) from z)) (by simp)
      | some u =>
        rcases some_ q with ⟨rfl, rfl⟩ | ⟨_, m, _⟩
        · obtain ⟨e2, _⟩ := hok' b _ (un.frzs b _ _ q)
          rw [ha] at e; cases e
          exact e2
        · exact absurd m nb
    refine ⟨rfl, ⟨fun b o e => ?_, fun b o e => ?_⟩, os, bare⟩
    · by_cases hb : b ∈ ts
      · obtain ⟨p, hp, rfl⟩ := ofT b hb
        obtain ⟨xs, hm⟩ := more p hp
        rw [hT p hp] at e; cases e
        exact .inr (.inl ⟨((C p hp).tab (hT p hp)).isCodeTable, rfl, #[], xs, rfl, by rw [Array.empty_append]; exact hm⟩)
      · exact .inl (same b o hb e)
    · by_cases hb : b ∈ ts
      · obtain ⟨p, hp, rfl⟩ := ofT b hb
        obtain ⟨xs, hm⟩ := more p hp
        exact ⟨_, hm⟩
      · exact ⟨o, same b o hb e⟩
end
/-- what is shown of the law at the heap that the top leaves -/
def LawG (l : PySem.W.OpenLaw) (w : World) (K : PySem.W.Frag) (k n : Nat) (x : Str) (mg : Str → Option Value) (fa : Addr) (h : Heap) : Prop :=
  (∀ a o, K.lookup a = some o → o.cls ≠ .type "list") ∧ ∃ (fd : FuncData) (cs : List (Addr × Addr)) (sp : Sp), (∀ p ∈ cs, h.get? p.2 = some { cls := .none, data := .fields #[] }) ∧ (∀ p ∈ cs, K.lookup p.2 = none) ∧ (∀ p ∈ cs, PySem.W.CodeHd h p.1 p.2) ∧ (∀ (s : Shared) (u : Value), BindsTo s fd ⟨[u], []⟩ [(x, u)]) ∧
    (∀ (H : Hp) (a : Addr) (ns : List Int), ns.length ≤ n → (∀ p ∈ cs, H p.2 = some (.tbl #[])) → Rd H a (.lst (ns.map V.int)) → sp [.ref a] H (fun v _ => v = .bl true) fun _ _ _ => False) ∧
    ∀ base : Heap, K.In base → base.Ns mainGlobals mg → (∀ p ∈ cs, LamX.TabB base mg p.1 p.2) → FnG l.prog w K mg base k fa fd [x] sp
theorem walkG {l : PySem.W.OpenLaw} {n k : Nat} {q : Program} {loose : List Str} {XP : (Str → Option Value) → Heap → Prop} {YP : World → Heap → Prop} {d : DefRec} {K : Params → PySem.W.Frag} {x : Str}
    (hn : l.most = some n) (hn2 : n ≤ sizeLine) (hdf : d.params.defaults = []) (hr : Room k callerA) (hY : ∀ (w : World) (h : Heap), YP w h → (K w.params).In h)
    (F : ∀ (w : World) (mg : Str → Option Value) (fa : Addr) (h : Heap), YP w h → (K w.params).In h → h.Ns mainGlobals mg → mg d.name = some (.ref fa) → LawG l w (K w.params) k n x mg fa h) :
    PySem.W.WalkO q loose XP YP l.row.toRowW d [] (fun f vs => PySem.call f vs) :=
  Att.attach_call hn hdf fun w s₀ s₁ mg mb fa o pm cd doc a vs ns G Y ho hd hcd hmg hobj hints hlen hg => by
    have KX := hY w _ Y
    obtain ⟨nl, fd, cs, sp, hT, nT, C, hb, hsp, hF⟩ := F w mg fa _ Y KX G.T.g hmg
    have nA : (K w.params).lookup a = none := by
      cases q : (K w.params).lookup a with
      | none => rfl
      | some o2 =>
        have e := KX a o2 q
        rw [hobj] at e; cases e
        exact absurd rfl (nl a _ q)
    exact law_callG KX G.T.g G.T.b G.T.builtins G.T.nolimit hg hT nT C G.T.bmain hobj nA hints (Nat.le_trans hlen hn2) hr hF hb fun H hH hS => hsp H a ns hlen hH hS
end UH

set_option maxRecDepth 100000
set_option maxHeartbeats 4000000
namespace UH
open PySem PySem.Spec PyProof.Rows L2

/-! ### a def from its body -/
def env0 (N n : Nat) (ds : List D) : En := ds.map Sl.val ++ List.replicate (N - n) Sl.none
def mDef (N n : Nat) (m : MS) : List D → Bxs → R D := fun ds s => (m (env0 N n ds) s).bind fun fl s => match fl with
  | .next _ => .ok .non s
  | .ret d => .ok d s
  | _ => .bad
def mDefN (N n : Nat) (m : MS) : List D → Bxs → R (List D) := fun ds s => (m (env0 N n ds) s).bind fun fl s => match fl with
  | .retN ds => .ok ds s
  | _ => .bad
section
variable {P : Pr} {L : List Addr} {O : Addr → Prop} {H : Hp} {s : Bxs}
theorem at_start {N : List Str} {ds : List D} {vs : List V} (b : Base P L O H s) (h : DatAll P L O H ds vs) (hn : vs.length ≤ N.length) : At P ⟨L, H, O, []⟩ (L2.start N vs) H (env0 N.length vs.length ds) s := by
  have hl := h.len
  have l1 : (L2.start N vs).length = (env0 N.length vs.length ds).length := by
    unfold L2.start env0
    rw [List.length_append, List.length_append, List.length_map, List.length_map, List.length_replicate, List.length_replicate, hl]
  have vals : ∀ (i : Nat) (sl : Sl), (env0 N.length vs.length ds)[i]? = some sl → (∃ d v, sl = .val d ∧ (L2.start N vs)[i]? = some (some v) ∧ Dat P L O H d v) ∨ sl = .none := fun i sl e => by
    unfold env0 at e
    by_cases hi : i < ds.length
    · rw [List.getElem?_append_left (by rw [List.length_map]; exact hi), List.getElem?_map] at e
      cases q : ds[i]? with
      | none => rw [q] at e; cases e
      | some d =>
        rw [q] at e; cases e
        obtain ⟨v, hv, dv⟩ := h.get i q
        refine .inl ⟨d, v, rfl, ?_, dv⟩
        unfold L2.start
        rw [List.getElem?_append_left (by rw [List.length_map, ← hl]; exact hi), List.getElem?_map, hv] <;> rfl
    · rw [List.getElem?_append_right (by rw [List.length_map]; omega)] at e
      have := List.mem_of_getElem? e
      exact .inr (List.eq_of_mem_replicate this)
  refine ⟨L, O, ⟨b, fun i sl e => ?_, fun i j xs ys a e1 => ?_, fun _ h => h, l1⟩, .refl, fun a h => .inl h, l1, fun p hp => absurd hp (by simp)⟩
  · rcases vals i sl e with ⟨d, v, rfl, e1, dv⟩ | rfl
    · exact ⟨v, e1, dv⟩
    · trivial
  · rcases vals i _ e1 with ⟨d, v, z, _⟩ | z <;> cases z
end
section
variable {Pg : Program} {w : World} {K : PySem.W.Frag} {mg : Str → Option Value} {base : Heap} {k n : Nat} {f : Addr} {name qual : Str} {params : Arguments} {body : List Stmt} {sc : Scope} {dV kV doc pm cdv ct oc : Value} {an od : Option Addr} {osl : Array (Option Value)} {N ps : List Str} {P : Pr} {m : MS}
/-- what a def's body is read in -/
abbrev Bd (Pg : Program) (w : World) (K : PySem.W.Frag) (mg : Str → Option Value) (base : Heap) (N : List Str) (qual : Str) (sc : Scope) (f : Addr) (cdv : Value) (k : Nat) (body : List Stmt) (P : Pr) (m : MS) : Prop :=
  ∀ (A : Around) (outer : List PySem.Env) (s : Shared) (H : Hp) (E : XK) (F : Frm), Ct (cxOf (L2.CX Pg w) Pg w K mg base N qual sc f cdv A outer s H E) k E → Tk (cxOf (L2.CX Pg w) Pg w K mg base N qual sc f cdv A outer s H E) E →
    Takes (cxOf (L2.CX Pg w) Pg w K mg base N qual sc f cdv A outer s H E) (fun cls d _ H => E cls d H) →
    PassesOwn (model Pg w) (cxOf (L2.CX Pg w) Pg w K mg base N qual sc f cdv A outer s H E).A (cxOf (L2.CX Pg w) Pg w K mg base N qual sc f cdv A outer s H E).env (cxOf (L2.CX Pg w) Pg w K mg base N qual sc f cdv A outer s H E).xe →
    PSs (cxOf (L2.CX Pg w) Pg w K mg base N qual sc f cdv A outer s H E) body (tS P F E m)
theorem ct_cx {A : Around} {outer : List PySem.Env} {s : Shared} {H : Hp} {E : XK} (hr : Room k (A.deeper (envOfC qual sc s.heap.objs.size f cdv))) (hg : A.guards = some []) : Ct (cxOf (L2.CX Pg w) Pg w K mg base N qual sc f cdv A outer s H E) k E :=
  ⟨hr, hg, passes_call (W := fun cls d _ H => E cls d H) (takes_of rfl rfl rfl rfl) fun _ _ _ _ h => h⟩
theorem def_ok (lk : K.lookup f = some ⟨oc, od, .func (PySem.W.fnOf name qual params body sc dV kV doc pm an cdv ct), osl⟩) (hcd : PySem.W.codeIn K cdv qual = true) (S : FnScope N ps sc) (hn : ps.length = n) (hN : n ≤ N.length)
    (hb : Bd Pg w K mg base N qual sc f cdv k body P m) : FnG Pg w K mg base (k + 1) f (PySem.W.fnOf name qual params body sc dV kV doc pm an cdv ct) ps (spM P n (mDef N.length n m)) := by
  refine fnG_of lk hcd S (fun vs H Q E h => h.1.trans hn.symm) fun A outer s H vs Q E hr hg h => ?_
  obtain ⟨hl, L, O, s0, ds, b, hd, p⟩ := h
  refine ⟨tS P ⟨L, H, O, []⟩ E m, hb A outer s H E ⟨L, H, O, []⟩ (ct_cx hr hg) (Tk.of rfl rfl (takes_of rfl rfl rfl rfl)) (takes_of rfl rfl rfl rfl) (passes_of rfl), env0 N.length n ds, s0, by rw [← hl]; exact at_start b hd (by rw [hl]; exact hN), ?_⟩
  unfold mDef at p
  cases hm : m (env0 N.length n ds) s0 with
  | bad => rw [hm] at p; exact p
  | exc c as s' => rw [hm] at p; exact p
  | ok fl s' =>
    rw [hm] at p
    cases fl with
    | next e => exact fun σ' H' ⟨L', O', rel, st, _⟩ => p L' H' (rel.base.less rel.out) st _ rfl
    | ret d => exact fun v H' L' b st hv => p L' H' b st v hv
    | retN ds => exact p.elim
    | brk e => exact p.elim
    | cont e => exact p.elim
theorem def_okN (lk : K.lookup f = some ⟨oc, od, .func (PySem.W.fnOf name qual params body sc dV kV doc pm an cdv ct), osl⟩) (hcd : PySem.W.codeIn K cdv qual = true) (S : FnScope N ps sc) (hn : ps.length = n) (hN : n ≤ N.length)
    (hb : Bd Pg w K mg base N qual sc f cdv k body P m) : FnG Pg w K mg base (k + 1) f (PySem.W.fnOf name qual params body sc dV kV doc pm an cdv ct) ps (spN P n (mDefN N.length n m)) := by
  refine fnG_of lk hcd S (fun vs H Q E h => h.1.trans hn.symm) fun A outer s H vs Q E hr hg h => ?_
  obtain ⟨hl, L, O, s0, ds, b, hd, p⟩ := h
  refine ⟨tS P ⟨L, H, O, []⟩ E m, hb A outer s H E ⟨L, H, O, []⟩ (ct_cx hr hg) (Tk.of rfl rfl (takes_of rfl rfl rfl rfl)) (takes_of rfl rfl rfl rfl) (passes_of rfl), env0 N.length n ds, s0, by rw [← hl]; exact at_start b hd (by rw [hl]; exact hN), ?_⟩
  unfold mDefN at p
  cases hm : m (env0 N.length n ds) s0 with
  | bad => rw [hm] at p; exact p
  | exc c as s' => rw [hm] at p; exact p
  | ok fl s' =>
    rw [hm] at p
    cases fl with
    | retN ds => exact fun H' L' b st => p L' H' b st
    | next e => exact p.elim
    | ret d => exact p.elim
    | brk e => exact p.elim
    | cont e => exact p.elim
end
end UH

set_option maxRecDepth 100000
set_option maxHeartbeats 4000000
namespace UH
open PySem PySem.Spec PyProof.Rows L2

/-! ### short forms, for the printed walks -/
section
variable {X : Cx} {P : Pr} {F : Frm} {E : XK} {k : Nat} {x : Str} {pos p : Pos} {a b c e : Expr} {es : List Expr} {ma mb mc : ME} {m : MA}
theorem tv (i : Nat) (hi : X.N[i]? = some x := by rfl) (hv : Vis X.env.scope x := by first | exact .inl rfl | exact .inr (.inl rfl) | exact .inr (.inr rfl)) (hd : (x == ("__debug__" : Str)) = false := by decide) (hcd : (x == ("__classdict__" : Str)) = false := by decide) : PE X (.Name x pos) (tVar i) := pe_var hi hv hd hcd
theorem ev (i : Nat) (hi : X.N[i]? = some x := by rfl) (hv : Vis X.env.scope x := by first | exact .inl rfl | exact .inr (.inl rfl) | exact .inr (.inr rfl)) (hd : (x == ("__debug__" : Str)) = false := by decide) (hcd : (x == ("__classdict__" : Str)) = false := by decide) : PE X (.Name x pos) (tE P E (mVar i)) := e_var i (pe_var hi hv hd hcd)
theorem evw (i : Nat) (hi : X.N[i]? = some x := by rfl) (hv : Vis X.env.scope x := by first | exact .inl rfl | exact .inr (.inl rfl) | exact .inr (.inr rfl)) (hd : (x == ("__debug__" : Str)) = false := by decide) (hcd : (x == ("__classdict__" : Str)) = false := by decide) : PE X (.Name x pos) (tW P E (mVarW i)) := w_var i (pe_var hi hv hd hcd)
theorem ct_blk {s : Shared} {H : Hp} {sc : Scope} {ce : PySem.Env} {fp : List Addr} {xe : Value → Shared → Prop} (c : Ct X k E) (t : Tk (blkX X s H sc ce fp xe) E) : Ct (blkX X s H sc ce fp xe) k E := ⟨c.room, c.gd, t.px⟩

theorem e_gstr {z : Str} (hg : Gl X x) (hm : ∃ t, X.mg x = some (.str z t)) (h : (decide (z.length ≤ sizeLine) && z.cps.toList.all fun c => decide (c < 1114112)) = true := by decide +kernel) (hdb : (x == ("__debug__" : Str)) = false := by decide) : PE X (.Name x pos) (tE P E (mC (.str z))) := by
  obtain ⟨t, hm⟩ := hm
  refine e_glob hg hm (v := .str z) ⟨t, rfl⟩ (fun _ _ _ => ⟨rfl, ?_⟩) hdb
  rw [Bool.and_eq_true] at h
  exact ⟨of_decide_eq_true h.1, fun c hc => of_decide_eq_true (List.all_eq_true.mp h.2 c hc)⟩
theorem e_gint {z : Int} (hg : Gl X x) (hm : ∃ t, X.mg x = some (.int z t)) (hdb : (x == ("__debug__" : Str)) = false := by decide) : PE X (.Name x pos) (tE P E (mC (.int z))) := by
  obtain ⟨t, hm⟩ := hm
  exact e_glob hg hm (v := .int z) ⟨t, rfl⟩ (fun _ _ _ => rfl) hdb
/-! operators -/
def opAddL : D → D → Option D
  | .lst xs, .lst ys => if xs.length + ys.length ≤ sizeLine then some (.lst (xs ++ ys)) else none
  | .int i, .int j => opAdd (.int i) (.int j)
  | .str i, .str j => opAdd (.str i) (.str j)
  | .tup i, .tup j => opAdd (.tup i) (.tup j)
  | _, _ => none
theorem v_addL (hK : X.K = P.K) : V2 P (fun x y H Q => (rI0 (fun i j => .int (i + j)) x y H Q ∨ (∃ i j, x = .str i ∧ y = .str j ∧ i.length + j.length ≤ sizeLine ∧ Q (.str (i ++ j)) H) ∨ rCatA X.K x y H Q) ∨ rCatB x y H Q) opAddL := by
  intro L O H s x y d v w Q b hx hy e k
  have old : opAdd x y = some d → _ := fun e => Or.inl (b := rCatB v w H Q) (v_add (X := X) hK b hx hy e k)
  cases x with
  | lst xs =>
    cases y with
    | lst ys =>
      have e : (if xs.length + ys.length ≤ sizeLine then some (D.lst (xs ++ ys)) else none) = some d := e
      split at e
      · rename_i hz
        cases e
        obtain ⟨a1, vs, e1, q1, z1, r1⟩ := WDat.rd hx
        obtain ⟨a2, ws, e2, q2, z2, r2⟩ := WDat.rd hy
        have hz' : vs.length + ws.length ≤ sizeLine := by rw [← r1.len, ← r2.len]; exact hz
        exact .inr ⟨a1, a2, vs, ws, e1, e2, q1, q2, hz', fun p hp => k _ _ (Same.upd hp) (Dat.newLst b hp (by rw [List.length_append]; exact hz') (r1.append r2))⟩
      · cases e
    | _ => cases e
  | int i => cases y <;> first | exact old e | cases e
  | str i => cases y <;> first | exact old e | cases e
  | tup i => cases y <;> first | exact old e | cases e
  | _ => cases e
theorem x_add (hK : X.K = P.K) (ha : PE X a (tW P E ma)) (hb : PE X b (tW P E mb)) : PE X (.BinOp a .Add b pos) (tE P E (m2 opAddL ma mb)) := e_op ((op_add.or (op_add_str.or op_catA)).or op_catB) (v_addL hK) ha hb
theorem x_sub (ha : PE X a (tW P E ma)) (hb : PE X b (tW P E mb)) : PE X (.BinOp a .Sub b pos) (tE P E (m2 opSub ma mb)) := e_op op_sub v_sub ha hb
def opMulS : D → D → Option D
  | .str z, y => opRepS (.str z) y
  | x, y => opMul x y
theorem v_mulS : V2 P (fun x y H Q => rI CMul (fun i j => .int (i * j)) x y H Q ∨ rRepS x y H Q) opMulS := by
  intro L O H s x y d v w Q b hx hy e k
  cases x with
  | str z => exact .inr (v_repS b hx hy e k)
  | _ => exact .inl (v_mul b hx hy e k)
theorem x_mul (ha : PE X a (tW P E ma)) (hb : PE X b (tW P E mb)) : PE X (.BinOp a .Mult b pos) (tE P E (m2 opMulS ma mb)) := e_op (op_mul.or op_repS) v_mulS ha hb
theorem x_mod (ha : PE X a (tW P E ma)) (hb : PE X b (tW P E mb)) : PE X (.BinOp a .Mod b pos) (tE P E (m2 opMod ma mb)) := e_op op_mod v_mod ha hb
theorem x_div (ha : PE X a (tW P E ma)) (hb : PE X b (tW P E mb)) : PE X (.BinOp a .FloorDiv b pos) (tE P E (m2 opFdiv ma mb)) := e_op op_fdiv v_fdiv ha hb
theorem x_pow (ha : PE X a (tW P E ma)) (hb : PE X b (tW P E mb)) : PE X (.BinOp a .Pow b pos) (tE P E (m2 opPow ma mb)) := e_op op_pow v_pow ha hb
theorem v_eqX (hK : X.K = P.K) : V2 P (rEqD X.K) opEq := by rw [hK]; exact v_eq
theorem v_neX (hK : X.K = P.K) : V2 P (rNeD X.K) opNe := by rw [hK]; exact v_ne
theorem hu64 (c : Ct X k E) : X.A.units + 64 < cLine := by have := c.hu; omega
theorem hu1 (c : Ct X k E) : X.A.units + 1 < cLine := by have := c.hu; omega
theorem x_eq (hK : X.K = P.K) (c : Ct X k E) (ha : PE X a (tW P E ma)) (hb : PE X b (tW P E mb)) : PE X (.Compare a [.Eq] [b] pos) (tE P E (m2 opEq ma mb)) := e_cmp (op_eqD (hu64 c)) (v_eqX hK) ha hb (nomark _)
theorem q_eq (hK : X.K = P.K) (c : Ct X k E) (ha : PE X a (tW P E ma)) (hb : PE X b (tW P E mb)) : PT X (.Compare a [.Eq] [b] pos) (tT P E (mtE (m2 opEq ma mb))) := t_cmp (op_eqD (hu64 c)) (v_eqX hK) ha hb (nomark _)
theorem x_ne (hK : X.K = P.K) (c : Ct X k E) (ha : PE X a (tW P E ma)) (hb : PE X b (tW P E mb)) : PE X (.Compare a [.NotEq] [b] pos) (tE P E (m2 opNe ma mb)) := e_cmp (op_neD (hu64 c)) (v_neX hK) ha hb (nomark _)
theorem q_ne (hK : X.K = P.K) (c : Ct X k E) (ha : PE X a (tW P E ma)) (hb : PE X b (tW P E mb)) : PT X (.Compare a [.NotEq] [b] pos) (tT P E (mtE (m2 opNe ma mb))) := t_cmp (op_neD (hu64 c)) (v_neX hK) ha hb (nomark _)
theorem x_lt (ha : PE X a (tW P E ma)) (hb : PE X b (tW P E mb)) : PE X (.Compare a [.Lt] [b] pos) (tE P E (m2 opLt ma mb)) := e_cmp (op_lt.or op_lt_str) v_lt ha hb (nomark _)
theorem q_lt (ha : PE X a (tW P E ma)) (hb : PE X b (tW P E mb)) : PT X (.Compare a [.Lt] [b] pos) (tT P E (mtE (m2 opLt ma mb))) := t_cmp (op_lt.or op_lt_str) v_lt ha hb (nomark _)
theorem x_le (ha : PE X a (tW P E ma)) (hb : PE X b (tW P E mb)) : PE X (.Compare a [.LtE] [b] pos) (tE P E (m2 opLe ma mb)) := e_cmp (op_le.or op_le_str) v_le ha hb (nomark _)
theorem q_le (ha : PE X a (tW P E ma)) (hb : PE X b (tW P E mb)) : PT X (.Compare a [.LtE] [b] pos) (tT P E (mtE (m2 opLe ma mb))) := t_cmp (op_le.or op_le_str) v_le ha hb (nomark _)
theorem x_gt (ha : PE X a (tW P E ma)) (hb : PE X b (tW P E mb)) : PE X (.Compare a [.Gt] [b] pos) (tE P E (m2 opGt ma mb)) := e_cmp (op_gt.or op_gt_str) v_gt ha hb (nomark _)
theorem q_gt (ha : PE X a (tW P E ma)) (hb : PE X b (tW P E mb)) : PT X (.Compare a [.Gt] [b] pos) (tT P E (mtE (m2 opGt ma mb))) := t_cmp (op_gt.or op_gt_str) v_gt ha hb (nomark _)
theorem x_ge (ha : PE X a (tW P E ma)) (hb : PE X b (tW P E mb)) : PE X (.Compare a [.GtE] [b] pos) (tE P E (m2 opGe ma mb)) := e_cmp (op_ge.or op_ge_str) v_ge ha hb (nomark _)
theorem q_ge (ha : PE X a (tW P E ma)) (hb : PE X b (tW P E mb)) : PT X (.Compare a [.GtE] [b] pos) (tT P E (mtE (m2 opGe ma mb))) := t_cmp (op_ge.or op_ge_str) v_ge ha hb (nomark _)
theorem x_in (hK : X.K = P.K) (c : Ct X k E) (ha : PE X a (tW P E ma)) (hb : PE X b (tW P E mb)) (hm : behindInMarks .In b = false := by rfl) : PE X (.Compare a [.In] [b] pos) (tE P E (m2 (inD false) ma mb)) := e_cmp (op_in2 c.hu) (v_in hK false) ha hb hm
theorem q_in (hK : X.K = P.K) (c : Ct X k E) (ha : PE X a (tW P E ma)) (hb : PE X b (tW P E mb)) (hm : behindInMarks .In b = false := by rfl) : PT X (.Compare a [.In] [b] pos) (tT P E (mtE (m2 (inD false) ma mb))) := t_cmp (op_in2 c.hu) (v_in hK false) ha hb hm
theorem x_nin (hK : X.K = P.K) (c : Ct X k E) (ha : PE X a (tW P E ma)) (hb : PE X b (tW P E mb)) (hm : behindInMarks .NotIn b = false := by rfl) : PE X (.Compare a [.NotIn] [b] pos) (tE P E (m2 (inD true) ma mb)) := e_cmp (op_nin2 c.hu) (v_in hK true) ha hb hm
theorem q_nin (hK : X.K = P.K) (c : Ct X k E) (ha : PE X a (tW P E ma)) (hb : PE X b (tW P E mb)) (hm : behindInMarks .NotIn b = false := by rfl) : PT X (.Compare a [.NotIn] [b] pos) (tT P E (mtE (m2 (inD true) ma mb))) := t_cmp (op_nin2 c.hu) (v_in hK true) ha hb hm
theorem x_is (ha : PE X a (tW P E ma)) (hb : PE X b (tW P E mb)) : PE X (.Compare a [.Is] [b] pos) (tE P E (m2 opIsN ma mb)) := e_cmp op_isN v_isN ha hb (nomark _)
theorem q_is (ha : PE X a (tW P E ma)) (hb : PE X b (tW P E mb)) : PT X (.Compare a [.Is] [b] pos) (tT P E (mtE (m2 opIsN ma mb))) := t_cmp op_isN v_isN ha hb (nomark _)
theorem x_isnot (ha : PE X a (tW P E ma)) (hb : PE X b (tW P E mb)) : PE X (.Compare a [.IsNot] [b] pos) (tE P E (m2 opNotN ma mb)) := e_cmp op_notN v_notN ha hb (nomark _)
theorem q_isnot (ha : PE X a (tW P E ma)) (hb : PE X b (tW P E mb)) : PT X (.Compare a [.IsNot] [b] pos) (tT P E (mtE (m2 opNotN ma mb))) := t_cmp op_notN v_notN ha hb (nomark _)
theorem x_lele (ha : PE X a (tW P E ma)) (hb : PE X b (tW P E mb)) (hc : PE X c (tW P E mc)) (hm : lastMarks [.LtE, .LtE] [b, c] = false := by with_unfolding_all rfl) : PE X (.Compare a [.LtE, .LtE] [b, c] pos) (tE P E (mChain opLe opLe ma mb mc)) := e_chain (op_le.or op_le_str) v_le (op_le.or op_le_str) v_le ha hb hc hm
theorem q_lele (ha : PE X a (tW P E ma)) (hb : PE X b (tW P E mb)) (hc : PE X c (tW P E mc)) (hm : lastMarks [.LtE, .LtE] [b, c] = false := by with_unfolding_all rfl) : PT X (.Compare a [.LtE, .LtE] [b, c] pos) (tT P E (mtE (mChain opLe opLe ma mb mc))) := t_chain (op_le.or op_le_str) v_le (op_le.or op_le_str) v_le ha hb hc hm

/-! what is built in -/
theorem x_len (hK : X.K = P.K) (hg : Gl X "len") (hm : X.mg "len" = none) (ha : PE X e (tW P E ma)) (he : starEach [e] X.env = [(false, eval e X.env)] := by rfl) : PE X (.Call (.Name "len" p) [e] [] pos) (tE P E (mCB fLen (maCons ma maNil))) :=
  e_callB call_len (v_len hK) hg hm PySem.boot_len (aw_cons ha aw_nil he) (by decide) (by decide) he rfl
theorem x_all (hK : X.K = P.K) (hc : X.calm = true) (hg : Gl X "all") (hm : X.mg "all" = none) (ha : PE X e (tW P E ma)) (he : starEach [e] X.env = [(false, eval e X.env)] := by rfl) : PE X (.Call (.Name "all" p) [e] [] pos) (tE P E (mCB fAll (maCons ma maNil))) :=
  e_callB (cr_all hc) (v_all hK) hg hm (by decide +kernel) (aw_cons ha aw_nil he) (by decide) (by decide) he rfl
theorem x_any (hK : X.K = P.K) (hc : X.calm = true) (hg : Gl X "any") (hm : X.mg "any" = none) (ha : PE X e (tW P E ma)) (he : starEach [e] X.env = [(false, eval e X.env)] := by rfl) : PE X (.Call (.Name "any" p) [e] [] pos) (tE P E (mCB fAny (maCons ma maNil))) :=
  e_callB (cr_any hc) (v_any hK) hg hm (by decide +kernel) (aw_cons ha aw_nil he) (by decide) (by decide) he rfl
theorem x_tuple (hK : X.K = P.K) (hg : Gl X "tuple") (hm : X.mg "tuple" = none) (ha : PE X e (tW P E ma)) (he : starEach [e] X.env = [(false, eval e X.env)] := by rfl) : PE X (.Call (.Name "tuple" p) [e] [] pos) (tE P E (mCB fTup (maCons ma maNil))) :=
  e_callTy call_tuple_of (v_tup hK) hg hm (by decide +kernel) (aw_cons ha aw_nil he) (by decide) (by decide) he rfl
theorem x_list (hK : X.K = P.K) (hg : Gl X "list") (hm : X.mg "list" = none) (ha : PE X e (tW P E ma)) (he : starEach [e] X.env = [(false, eval e X.env)] := by rfl) : PE X (.Call (.Name "list" p) [e] [] pos) (tN P E (mCN fList (maCons ma maNil))) :=
  n_callTy call_list_of (v_list hK) hg hm (by decide +kernel) (aw_cons ha aw_nil he) (by decide) (by decide) he rfl
theorem x_int (hg : Gl X "int") (hm : X.mg "int" = none) (ha : PE X e (tW P E ma)) (he : starEach [e] X.env = [(false, eval e X.env)] := by rfl) : PE X (.Call (.Name "int" p) [e] [] pos) (tE P E (mCB fInt (maCons ma maNil))) :=
  e_callTy (call_int1.or call_int_str) v_int hg hm (by decide +kernel) (aw_cons ha aw_nil he) (by decide) (by decide) he rfl
theorem x_str (hg : Gl X "str") (hm : X.mg "str" = none) (ha : PE X e (tW P E ma)) (he : starEach [e] X.env = [(false, eval e X.env)] := by rfl) : PE X (.Call (.Name "str" p) [e] [] pos) (tE P E (mCB fStr (maCons ma maNil))) :=
  e_callTy (call_str_int.or SkE.call_str_str) v_str hg hm (by decide +kernel) (aw_cons ha aw_nil he) (by decide) (by decide) he rfl
theorem x_repr (hK : X.K = P.K) (c : Ct X k E) (hg : Gl X "repr") (hm : X.mg "repr" = none) (ha : PE X e (tW P E ma)) (he : starEach [e] X.env = [(false, eval e X.env)] := by rfl) : PE X (.Call (.Name "repr" p) [e] [] pos) (tE P E (mCB fRepr (maCons ma maNil))) :=
  e_callB (call_reprD c.gd c.hu) (by rw [hK]; exact v_repr) hg hm (by decide +kernel) (aw_cons ha aw_nil he) (by decide) (by decide) he rfl
theorem x_min2 (hc : X.calm = true) (hg : Gl X "min") (hm : X.mg "min" = none) (ha : PE X a (tW P E ma)) (hb : PE X b (tW P E mb)) (he : starEach [a, b] X.env = (false, eval a X.env) :: starEach [b] X.env := by rfl) (he2 : starEach [b] X.env = (false, eval b X.env) :: starEach [] X.env := by rfl) (hpl : (backTo pos (starEach [b] X.env)).any (·.1) = false := by rfl) :
    PE X (.Call (.Name "min" p) [a, b] [] pos) (tE P E (mCB fMin (maCons ma (maCons mb maNil)))) :=
  e_callB (call_min2 hc) v_min hg hm (by decide +kernel) (aw_cons ha (aw_cons hb aw_nil he2) he) (by decide) (by decide) he hpl
theorem x_isi {T : String} {p2 : Pos} (hK : X.K = P.K) (hg : Gl X "isinstance") (hm : X.mg "isinstance" = none) (ha : PE X e (tW P E ma)) (hg2 : Gl X x) (hm2 : X.mg x = none) (hT : bootBuiltins x = some (.type T)) (hn : x ≠ "__name__" := by decide) (hd : (x == ("__debug__" : Str)) = false := by decide) (hs : starEach [e, .Name x p2] X.env = (false, eval e X.env) :: starEach [.Name x p2] X.env := by rfl) :
    PE X (.Call (.Name "isinstance" p) [e, .Name x p2] [] pos) (tE P E (m1 (fIsi T) ma)) := e_isi hK hg hm ha (pe_bltn hg2 hm2 hT (show RelV (.ty T) (.type T) from rfl) hn hd) hs
end
end UH

set_option maxRecDepth 100000
set_option maxHeartbeats 4000000
/-! the head by one run: as the library's widest look, from several roots; what it gives a def, a class of errors, a table -/
namespace UH
open PySem PySem.Spec PyProof.Rows L2

section
open He
/-- reached in n steps from the module's names and the other roots -/
def asY (g : Addr → Option Obj) (rs : List Addr) : Nat → List Addr
  | 0 => mainGlobals :: rs
  | n + 1 => growD g (asY g rs n)
def obsY (n : Nat) (rs : List Addr) (fa : List Fa) (fn : List DefD) (ts : List Tab) (tf : List Defn) (ex : PySem.W.Frag → Bool) (g : Addr → Option Obj) : AlX := (obsT fa fn ts (frT g (asY g rs n)), ex (frT g (asY g rs n)) && tabsB g tf (frT g (asY g rs n)))
theorem saysY_of {n : Nat} {rs : List Addr} {fa : List Fa} {fn : List DefD} {ts : List Tab} {tf : List Defn} {ex : PySem.W.Frag → Bool} {w : World} {h : Heap} (e : obsY n rs fa fn ts tf ex h.get? = valX fn ts w) : SaysX fa fn ts tf ex w h (frT h.get? (asY h.get? rs n)) := by
  have e0 : (obsT fa fn ts (frT h.get? (asY h.get? rs n)), ex (frT h.get? (asY h.get? rs n)) && tabsB h.get? tf (frT h.get? (asY h.get? rs n))) = valX fn ts w := e
  clear e
  generalize asY h.get? rs n = as at e0 ⊢
  have e1 : obsT fa fn ts (frT h.get? as) = valT fn ts w := congrArg (fun z : AlX => z.1) e0
  have e2 : (ex (frT h.get? as) && tabsB h.get? tf (frT h.get? as)) = true := congrArg (fun z : AlX => z.2) e0
  obtain ⟨h1, h2⟩ := ba e2
  have key : ∀ p ∈ tf, PySem.W.codeHdIn (frT h.get? as) (cT (frT h.get? as) p).1 (cT (frT h.get? as) p).2 = true ∧ ∃ o, h.get? (cT (frT h.get? as) p).2 = some o ∧ emptyTab o = true := fun p hp => by
    obtain ⟨h3, h4⟩ := ba (List.all_eq_true.mp h2 p hp)
    refine ⟨h3, ?_⟩
    cases q : h.get? (cT (frT h.get? as) p).2 with
    | none => rw [q] at h4; cases h4
    | some o => rw [q] at h4; exact ⟨o, rfl, h4⟩
  exact ⟨e1, h1, fun p hp => (key p hp).1, fun p hp => by
    obtain ⟨_, o, q, z⟩ := key p hp
    exact frT_none q z, fun p hp => by
    obtain ⟨_, o, q, z⟩ := key p hp
    rw [q, emptyTab_eq z]⟩
def hookY (n : Nat) (rs : List Addr) (fa : List Fa) (fn : List DefD) (ts : List Tab) (tf : List Defn) (ex : PySem.W.Frag → Bool) : PySem.W.Hook where
  α := AlX
  obs := fun s => obsY n rs fa fn ts tf ex s.heap.get?
  val := fun w => valX fn ts w
  says := fun w h => ∃ K : PySem.W.Frag, K.In h ∧ SaysX fa fn ts tf ex w h K
  of := fun _ _ e => ⟨_, frT_in, saysY_of e⟩
  keeps := fun _ _ _ ⟨K, hK, c⟩ k => ⟨K, PySem.W.Frag.In.keeps hK k, ⟨c.t, c.more, c.hd, c.out, fun p hp => k _ _ (c.empty p hp)⟩⟩
theorem obsY_eq {n : Nat} {rs : List Addr} {fa : List Fa} {fn : List DefD} {ts : List Tab} {tf : List Defn} {ex : PySem.W.Frag → Bool} {g : Addr → Option Obj} {s : Shared} (h : ∀ a, g a = s.heap.get? a) : obsY n rs fa fn ts tf ex g = (hookY n rs fa fn ts tf ex).obs s := by
  have e : g = s.heap.get? := funext h
  rw [e] <;> rfl
end

/-! ### what a Bool of the written part gives -/
section
variable {K : PySem.W.Frag}
theorem andB {a b : Bool} (h : (a && b) = true) : a = true ∧ b = true := Bool.and_eq_true_iff.mp h
/-- an own class of errors -/
def oexB (K : PySem.W.Frag) (C : Addr) : Bool := (match K.lookup C with
  | some ⟨.type "type", _, .cls cd, sl⟩ => (match cd.mro, sl.toList with
    | .ref C' :: bm, [_, _, _, _, some (.builtin n), _] => C' == C && n == "ValueError.__new__" && !cd.hasDel && cd.hasDict && PySem.HandSPX.refsVE bm
    | _, _ => false)
  | _ => false) && decide (PySem.W.findIn K (.ref C) "__setattr__" = some (some (.builtin "object.__setattr__"))) && decide (PySem.W.subIn K (.ref C) (.type "BaseException") = some true) && decide (PySem.W.typeIn K (.ref C) = some (.type "type")) && PySem.W.keepIn K (.ref C)
theorem oexB_ok {C : Addr} (h : oexB K C = true) : OexC K C := by
  obtain ⟨h, h5⟩ := andB h
  obtain ⟨h, h4⟩ := andB h
  obtain ⟨h, h3⟩ := andB h
  obtain ⟨h, h2⟩ := andB h
  refine ⟨?_, of_decide_eq_true h2, of_decide_eq_true h3, of_decide_eq_true h4, h5⟩
  split at h
  · rename_i dd cd sl ho
    split at h
    · rename_i C' bm k0 k1 k2 k3 n k5 hm hs
      simp only [Bool.and_eq_true, beq_iff_eq, Bool.not_eq_true'] at h
      obtain ⟨⟨⟨⟨rfl, rfl⟩, hdel⟩, hdict⟩, hr⟩ := h
      obtain ⟨nm, bs, mro, ns, qn, hd, sn, sub, ab, col, del⟩ := cd
      dsimp only at hm hdel hdict
      subst hm hdel hdict
      have hsl : sl = #[k0, k1, k2, k3, some (.builtin "ValueError.__new__"), k5] := by
        obtain ⟨l⟩ := sl
        simp only at hs
        rw [hs]
      subst hsl
      exact ⟨nm, qn, ns, bs, bm, sn, sub, ab, col, dd, k0, k1, k2, k3, k5, ho, hr⟩
    · cases h
  · cases h
/-- a written tuple -/
def tupAtB (K : PySem.W.Frag) (a : Addr) (vs : List V) : Bool := match K.lookup a with
  | some ⟨.type c, _, .seq its _, _⟩ => decide (c = "tuple") && (decide (its.size ≤ sizeLine) && He.relAll vs its.toList)
  | _ => false
theorem tupAtB_ok {a : Addr} {vs : List V} (h : tupAtB K a vs = true) : KTup K a vs := by
  unfold tupAtB at h
  split at h
  · rename_i c d its n sl ho
    obtain ⟨h1, h⟩ := andB h
    obtain ⟨h2, h3⟩ := andB h
    exact ⟨_, its, n, ho, congrArg Value.type (of_decide_eq_true h1), rfl, of_decide_eq_true h2, He.relAll_ok h3⟩
  · cases h
/-- no list is written -/
def noLst (K : PySem.W.Frag) : Bool := K.all fun p => !decide (p.2.cls = .type "list")
theorem noLst_ok (h : noLst K = true) : ∀ a o, K.lookup a = some o → o.cls ≠ .type "list" := fun a o e z => by
  have q := List.all_eq_true.mp h (a, o) (He.lookup_mem e)
  rw [decide_eq_true (show (a, o).2.cls = _ from z)] at q
  cases q
/-- a dict with text keys -/
theorem dicW_at {P : Params} {a : Addr} {ks : List Str} (h : He.dicW K a = some (He.keysIn P ks)) : ∃ es n, K.lookup a = some ⟨.type "dict", none, .dict es n, #[]⟩ ∧ es.toList.map He.keyOf = He.keysIn P ks ∧ (a == sysModules) = false := by
  unfold He.dicW at h
  split at h
  · rename_i c es n sl ho
    split at h
    · rename_i z
      obtain ⟨z1, z2⟩ := andB z
      obtain ⟨z3, z4⟩ := andB z2
      have e1 : c = "dict" := of_decide_eq_true z1
      have e2 : sl = #[] := Array.isEmpty_iff.mp z3
      subst e1 e2
      exact ⟨es, n, ho, Option.some.inj h, by
        cases y : a == sysModules with
        | false => rfl
        | true => rw [y] at z4; cases z4⟩
    · cases h
  · cases h
theorem keyOf_at {e : DictEntry} {x : Str} {i : Int} (h : He.keyOf e = some (x, i)) : ∃ t, e = ⟨i, .str x t, e.val⟩ := by
  obtain ⟨hh, k, v⟩ := e
  unfold He.keyOf at h
  cases k with
  | str y t =>
    obtain ⟨rfl, rfl⟩ := Prod.mk.inj (Option.some.inj h)
    exact ⟨t, rfl⟩
  | _ => cases h
end
end UH
namespace UH
open PySem PySem.Spec PyProof.Rows L2
/-- the end, the written part found by a look at the heap -/
theorem walkGE {l : PySem.W.OpenLaw} {n k : Nat} {q : Program} {loose : List Str} {XP : (Str → Option Value) → Heap → Prop} {YP : World → Heap → Prop} {d : DefRec} {x : Str}
    (hn : l.most = some n) (hn2 : n ≤ sizeLine) (hdf : d.params.defaults = []) (hr : Room k callerA)
    (F : ∀ (w : World) (mg : Str → Option Value) (fa : Addr) (h : Heap), YP w h → h.Ns mainGlobals mg → mg d.name = some (.ref fa) → ∃ K : PySem.W.Frag, K.In h ∧ LawG l w K k n x mg fa h) :
    PySem.W.WalkO q loose XP YP l.row.toRowW d [] (fun f vs => PySem.call f vs) :=
  Att.attach_call hn hdf fun w s₀ s₁ mg mb fa o pm cd doc a vs ns G Y ho hd hcd hmg hobj hints hlen hg => by
    obtain ⟨K, KX, nl, fd, cs, sp, hT, nT, C, hb, hsp, hF⟩ := F w mg fa _ Y G.T.g hmg
    have nA : K.lookup a = none := by
      cases q : K.lookup a with
      | none => rfl
      | some o2 =>
        have e := KX a o2 q
        rw [hobj] at e; cases e
        exact absurd rfl (nl a _ q)
    exact law_callG KX G.T.g G.T.b G.T.builtins G.T.nolimit hg hT nT C G.T.bmain hobj nA hints (Nat.le_trans hlen hn2) hr hF hb fun H hH hS => hsp H a ns hlen hH hS
/-! ### a def from what the head tells -/
section
variable {K : PySem.W.Frag} {x qual : Str} {st : Stmt} {f : Addr}
/-- where a def stands (of a class: by its qualified name) -/
structure DfQ (K : PySem.W.Frag) (x qual : Str) (st : Stmt) (f : Addr) (cdv : Value) : Prop where
  ex : ∃ (oc : Value) (od : Option Addr) (kV doc pm : Value) (an : Option Addr) (ct : Value) (osl : Array (Option Value)),
    K.lookup f = some ⟨oc, od, .func (PySem.W.fnOf x qual (C8.fnArgs st) (C8.fnBody st) (C8.fnScope st) .none kV doc pm an cdv ct), osl⟩
  cd : PySem.W.codeIn K cdv qual = true
  kp : PySem.W.keepIn K (.ref f) = true
theorem dfq_of (h : ∃ fd, FunD K x qual (C8.fnArgs st) (C8.fnBody st) (C8.fnScope st) [] [] f fd) : ∃ cdv, DfQ K x qual st f cdv := by
  obtain ⟨fd, ⟨oc, od, dV, kV, doc, pm, an, cdv, ct, osl, rfl, lk, hcd, hD, _⟩, kp⟩ := h
  rcases hD with ⟨_, rfl⟩ | ⟨e, _⟩
  · exact ⟨cdv, ⟨oc, od, kV, doc, pm, an, ct, osl, lk⟩, hcd, kp⟩
  · exact absurd rfl e
/-- the code object of the def at p is the one whose table is told -/
theorem cd_of {p : He.Defn} {cdv : Value} (D : DfQ K x qual st (He.fAd K p) cdv) : cdv = .ref (He.cT K p).1 := by
  obtain ⟨oc, od, kV, doc, pm, an, ct, osl, lk⟩ := D.ex
  obtain ⟨c, rfl⟩ := He.codeIn_ref D.cd
  show _ = Value.ref (He.codeOf K p)
  rw [He.codeOf_eq lk rfl]
end
end UH

set_option maxRecDepth 100000
set_option maxHeartbeats 4000000
namespace K85
open PySem PySem.Spec PyProof.Rows L2 UH

def top (i : Nat) : Stmt := PySem.Challenge.pw_underheard_k85_lines_there_and_back.main.body.getD i (.Pass ⟨0, 0, 0, 0⟩)
abbrev Pg : Program := PySem.Challenge.pw_underheard_k85_lines_there_and_back
/-- the readers' table -/
def readersT : List (Str × D) := [("hear", .tup [.fn 0, .fn 1]), ("do", .tup [.fn 2, .fn 2, .fn 0]), ("tell", .tup [.fn 2, .fn 2, .fn 0])]
/-- line, word as they are handed over; as they lie in the exception; as they are told -/
def selR : List D → List D
  | [l, w] => [w, l]
  | ds => ds
def selW : List D → Option (List D)
  | [w, l] => some [l, w]
  | _ => none
def initG : List V → List (Str × V)
  | [l, w] => [("word", w), ("line", l)]
  | _ => []
/-- what the top of the program has left -/
structure Fx (w : World) (K : PySem.W.Frag) (mg : Str → Option Value) (P : Pr) : Prop where
  hK : K = P.K
  z_all : mg "all" = none
  z_enumerate : mg "enumerate" = none
  z_int : mg "int" = none
  z_isinstance : mg "isinstance" = none
  z_len : mg "len" = none
  z_list : mg "list" = none
  z_min : mg "min" = none
  z_range : mg "range" = none
  z_repr : mg "repr" = none
  z_str : mg "str" = none
  z_tuple : mg "tuple" = none
  z_zip : mg "zip" = none
  g_FIGURES : ∃ t, mg "FIGURES" = some (.str "0123456789" t)
  g_LETTERS : ∃ t, mg "LETTERS" = some (.str "abcdefghijklmnopqrstuvwxyz" t)
  g_LONGEST_NAME : ∃ t, mg "LONGEST_NAME" = some (.int 8 t)
  g_LONGEST_WORD : ∃ t, mg "LONGEST_WORD" = some (.int 4 t)
  g_MOST_FIGURES : ∃ t, mg "MOST_FIGURES" = some (.int 60 t)
  fa0 : mg "number_in" = some (.ref (P.fa 0))
  fa1 : mg "word_in" = some (.ref (P.fa 1))
  fa2 : mg "name_in" = some (.ref (P.fa 2))
  fl : P.flds 0 = (["word", "line"] : List Str)
  rd : ∃ d, mg "READERS" = some (.ref d) ∧ KDc K w P d readersT
  mC : mg "NoText" = some (.ref (P.ca 0))
  oex : OexC K (P.ca 0)
  xf : XfC K (P.ca 0)
  exm : PySem.W.exmOne K (.ref (P.ca 0)) (.ref (P.ca 0)) = some true
  noL : PySem.W.findIn K (.ref (P.ca 0)) "line" = some none
  noW : PySem.W.findIn K (.ref (P.ca 0)) "word" = some none
  init : ∃ (fI : Addr) (fd : FuncData), PySem.W.findIn K (.ref (P.ca 0)) "__init__" = some (some (.ref fI)) ∧ PySem.W.typeIn K (.ref fI) = some (.type "function") ∧ Binds K fd ["self", "line", "word"] [] ∧
    ∀ base : Heap, K.In base → base.Ns mainGlobals mg → FnOk Pg w K mg base (L2.CX Pg w) 2 fI fd ["self", "line", "word"] (spInit K (P.ca 0) 2 initG)
  out : ∃ (g : Addr) (oc dV kV doc pm cdv ct : Value) (an od : Option Addr) (osl : Array (Option Value)), mg "_law_read_outcome" = some (.ref g) ∧ PySem.W.keepIn K (.ref g) = true ∧ PySem.W.codeIn K cdv "_law_read_outcome" = true ∧
    K.lookup g = some ⟨oc, od, .func (PySem.W.fnOf "_law_read_outcome" "_law_read_outcome" (C8.fnArgs (top 35)) (C8.fnBody (top 35)) (C8.fnScope (top 35)) dV kV doc pm an cdv ct), osl⟩ ∧
    Binds K (PySem.W.fnOf "_law_read_outcome" "_law_read_outcome" (C8.fnArgs (top 35)) (C8.fnBody (top 35)) (C8.fnScope (top 35)) dV kV doc pm an cdv ct) ["_law_ask"] []
section
variable {w : World} {K : PySem.W.Frag} {mg : Str → Option Value} {base : Heap} {P : Pr}
noncomputable def Fx.dR (fx : Fx w K mg P) : Addr := fx.rd.choose
theorem Fx.d_READERS (fx : Fx w K mg P) : mg "READERS" = some (.ref fx.dR) := fx.rd.choose_spec.1
theorem Fx.k_READERS (fx : Fx w K mg P) : KDc K w P fx.dR readersT := fx.rd.choose_spec.2
/-- a def that makes lambdas: its code object and that object's table -/
structure Lm (mg : Str → Option Value) (base : Heap) (P : Pr) (cdv : Value) (q : Str) : Prop where
  ex : ∃ c0 Pt, cdv = .ref c0 ∧ LamX.TabB base mg c0 Pt ∧ (Pt, q ++ "<lambda>") ∈ P.T ∧ ∀ p ∈ P.T, p.1 = Pt → p.2 = q ++ "<lambda>"
end
section
variable {X : Cx} {P : Pr} {F : Frm} {E : XK} {k : Nat} {p cpos pos : Pos} {e : Expr} {es : List Expr} {m : MA}
theorem x_raise (fx : Fx X.w X.K X.mg P) (c : Ct X k E) (ht : Takes X fun cls d _ H => E cls d H) (ha : PA X (e :: es) (tA P E m)) (hI : X.K.In X.base ∧ X.base.Ns mainGlobals X.mg) (hk : 3 ≤ k := by decide) (hg : Gl X "NoText" := by rfl) (hc : X.calm = true := by rfl)
    (he : starEach (e :: es) X.env = (false, eval e X.env) :: starEach es X.env := by rfl) (hpl : (backTo cpos (starEach es X.env)).any (·.1) = false := by rfl) (hpr : X.prog = Pg := by rfl) : PS X (.Raise (some (.Call (.Name "NoText" p) (e :: es) [] cpos)) none pos) (tS P F E (msRaise 0 2 selR m)) := by
  obtain ⟨fI, fd, iC, tI, hb, F1⟩ := fx.init
  have F1 := F1 X.base hI.1 hI.2
  rw [← hpr] at F1
  refine s_raise (n := 2) (gV := initG) (g := selR) hc ht fx.oex iC tI F1 (c.room.mono hk) hb hg fx.mC ha (fun ws h => ?_) (fun {L O H ds vs} hn hd => ?_) (by decide) he hpl
  · match ws, h with
    | [a, b], _ => simp [initG]
  · match ds, hn, hd with
    | [a, b], _, hd =>
      obtain ⟨v, r, rfl, h1, w, r2, rfl, h2, h3⟩ := hd
      cases (show r2 = [] from h3)
      exact ⟨[w, v], by rw [fx.fl]; rfl, .cons h2 (.cons h1 .nil)⟩
theorem h_readerFs0 : True := trivial
end
end K85

set_option maxRecDepth 100000
set_option maxHeartbeats 4000000
namespace K85
open PySem PySem.Spec PyProof.Rows L2 UH
section
variable {X : Cx} {P : Pr} {F : Frm} {E : XK} {k : Nat} {pos lpos p : Pos} {body : Expr} {params : Arguments} {scope : Scope} {mb : ME} {qual : Str} {cdv : Value}
/-- the handler's fields -/
theorem out_fs (fx : Fx X.w X.K X.mg P) {p1 p2 p3 p4 : Pos} (Z : Cx) (q : Addr) (oe : Obj) (cls : Value) (d : Option Addr) (pn : List (Addr × Obj)) (hK : Z.K = X.K) (hN : Z.N = (["_law_ask", "_law_found", "e"] : List Str)) (hs : Z.env.scope = C8.fnScope (top 35)) (hz : Zc cls d oe) (hf : ∃ vs, oe.data = .fields vs) :
    PA (Z.suite q ((q, oe) :: pn)) [.Attribute (.Name "e" p1) "line" p2, .Attribute (.Name "e" p3) "word" p4] (tFs q cls d (P.ca 0) 2 ["line", "word"]) := by
  have v : ∀ p : Pos, PE (Z.suite q ((q, oe) :: pn)) (.Name "e" p) (tVar 2) := fun p => pe_var (by show Z.N[2]? = _; rw [hN]; rfl) (.inl (by show Z.env.scope.names.lookup _ = _; rw [hs]; rfl)) (by decide) (by decide)
  have xf : XfC Z.K (P.ca 0) := by rw [hK]; exact fx.xf
  exact pa_cons (pe_xf xf (by rw [hK]; exact fx.noL) hz hf (v p1)) (pa_cons (pe_xf xf (by rw [hK]; exact fx.noW) hz hf (v p3)) pa_nil)
theorem x_out (fx : Fx X.w X.K X.mg P) (lm : Lm X.mg X.base P cdv qual) (c : Ct X (k + 2) E)
    (hbody : ∀ (A : Around) (outer : List PySem.Env) (s : Shared) (H : Hp) (E : XK) (f c' : Addr), Room k (A.deeper (LamX.lamEnv X scope s.heap.objs.size f c')) → A.guards = some [] → PE (LamX.lamCx X A outer s H E scope f c') body (tE P E mb))
    (hg : Gl X "_law_read_outcome" := by rfl) (hq : X.env.qual = qual := by rfl) (hcd : X.env.code = cdv := by rfl) (hL : LamX.lamSB X.env.scope scope = true := by decide +kernel) (hdef : defaultsOf params X.env = ([], []) := by rfl)
    (hbind : ∀ (q : Str) (cl : List (Str × Addr)) (pm cv ctv : Value), bindArgs (PySem.W.kla_fn "<lambda>" q params body scope cl pm cv ctv) ⟨[], []⟩ = pure [] := by intros; rfl) :
    PE X (.Call (.Name "_law_read_outcome" p) [.Lambda params body scope lpos] [] pos) (tE P E (mOut "returned" "NoText" 0 selW mb)) := by
  obtain ⟨g, oc, dV, kV, doc, pm, cdg, ct, an, od, osl, hm, hk, hcg, lk, hb⟩ := fx.out
  obtain ⟨c0, Pt, e0, TB, hT, hu⟩ := lm.ex
  subst hq
  exact e_out (fl := ["line", "word"]) (d0 := .non) (m0 := mC .non) hg hm hk lk hcg hb ⟨rfl, rfl, rfl, by decide, rfl, by decide +kernel, by decide +kernel⟩ (by decide) (.inl rfl) rfl rfl rfl (by decide) fx.mC fx.exm (fun Z => e_non) (fun _ => rfl) (fun _ _ => rfl) ⟨by decide +kernel, by decide +kernel⟩ ⟨by decide +kernel, by decide +kernel⟩
    (fun Z q oe cls d pn a b c d e => out_fs fx Z q oe cls _ pn a b c d e)
    (fun {L O H as ds vs} e h => by
      match as, e, h with
      | [w, l], e, h =>
        cases e
        obtain ⟨vw, r, rfl, h1, vl, r2, rfl, h2, h3⟩ := h
        cases (show r2 = [] from h3)
        exact ⟨[vl, vw], .cons h2 (.cons h1 .nil), by rw [fx.fl]; rfl⟩) (by decide)
    TB (hcd.trans e0) hT hu c.room c.gd (LamX.lamS_by hL) hdef hbind hbody
end
section
variable {w : World} {K : PySem.W.Frag} {mg : Str → Option Value} {base : Heap} {P : Pr}
theorem reader_of {f : List D → Bxs → R D} {x : Str} {a : Addr} {j k : Nat} (F : FdC Pg w K mg base j x (spM P 1 f)) (e : mg x = some (.ref a)) (h : j ≤ k) : ∃ fd ps, FnG Pg w K mg base k a fd ps (spM P 1 f) ∧ PySem.W.keepIn K (.ref a) = true ∧ Binds K fd ps [] := by
  obtain ⟨g, fd, ps, h1, h2, h3, h4⟩ := F.ex
  rw [e] at h2; cases h2
  exact ⟨fd, ps, h1.mono h, h3, h4⟩
end
end K85

set_option maxRecDepth 100000
set_option maxHeartbeats 4000000
namespace K85
open PySem PySem.Spec PyProof.Rows L2 UH
def mIndex (ma mb : ME) : ME := fun env s => (ma env s).bind fun x s => match x with
  | .lst ds => (mb env s).bind fun y s => R.ofO (opIndex (.lst ds) y) s
  | _ => .bad
section
variable {w : World} {K : PySem.W.Frag} {mg : Str → Option Value} {base : Heap} {P : Pr}
/-! ### _law_random_source -/
abbrev N__law_random_source : List Str := ["_law_script"]
abbrev s__law_random_source : Stmt := top 25
theorem nd__law_random_source : N__law_random_source.Nodup := by decide
def m__law_random_source : MS := (msRetN (mLst (maCons (mSl (mVar 0) moN (moS (mC (.int 63)))) (maCons (mC (.int 0)) (maCons (mC (.int 0)) (maCons (mC (.int 0)) maNil))))))
def f__law_random_source := mDefN 1 1 m__law_random_source
theorem b__law_random_source {fa : Addr} {cdv : Value} (fx : Fx w K mg P) : Bd Pg w K mg base N__law_random_source "_law_random_source" (C8.fnScope s__law_random_source) fa cdv 0 (C8.fnBody s__law_random_source) P m__law_random_source := fun A outer s H E F c tk ht hp =>
  (ss_one (s_retN (n_lst (a_cons (e_sl fx.hK (w_of (ev 0)) o_none (o_some e_int)) (a_cons e_int (a_cons e_int (a_cons e_int a_nil)))))))
/-! ### row_line -/
abbrev N_row_line : List Str := ["entry", "thing"]
abbrev s_row_line : Stmt := top 22
theorem nd_row_line : N_row_line.Nodup := by decide
def m_row_line : MS := (msRet (m2 opJoin (asStr (mC (.str " "))) (mN (mLc (miSeq (mVar 0)) (([("thing", 1)] : List (Str × Nat)).map (·.2)) (tgN 1) mtYes (mCB fStr (maCons (mVar 1) maNil))))))
def f_row_line := mDef 2 1 m_row_line
theorem b_row_line {fa : Addr} {cdv : Value} (fx : Fx w K mg P) : Bd Pg w K mg base N_row_line "row_line" (C8.fnScope s_row_line) fa cdv 0 (C8.fnBody s_row_line) P m_row_line := fun A outer s H E F c tk ht hp =>
  (ss_one (s_ret (e_join fx.hK (e_str (by decide +kernel)) (w_of (e_of (n_lc [("thing", 1)] rfl nd_row_line tk ((i_seq fx.hK (ev 0))) (blkOk_by (show blkC N_row_line (C8.fnScope s_row_line) _ _ = true from by decide +kernel)) (fun _ _ _ _ _ _ tk1 => (g_name 1 nd_row_line (by first | exact .inl rfl | exact .inr rfl))) (fun _ _ _ _ _ _ tk1 => ts_nil) (fun _ _ _ _ _ _ tk1 => (x_str rfl fx.z_str (w_of (ev 1))))))))))
/-! ### log_lines -/
abbrev N_log_lines : List Str := ["log", "entry"]
abbrev s_log_lines : Stmt := top 23
theorem nd_log_lines : N_log_lines.Nodup := by decide
def m_log_lines : MS := (msRetN (mLc (miSeq (mVar 0)) (([("entry", 1)] : List (Str × Nat)).map (·.2)) (tgN 1) mtYes (mCall 1 f_row_line (maCons (mVar 1) maNil))))
def f_log_lines := mDefN 2 1 m_log_lines
theorem b_log_lines {fa : Addr} {cdv : Value} (fx : Fx w K mg P) (F_row_line : FdC Pg w K mg base 1 "row_line" (spM P 1 f_row_line)) : Bd Pg w K mg base N_log_lines "log_lines" (C8.fnScope s_log_lines) fa cdv 1 (C8.fnBody s_log_lines) P m_log_lines := fun A outer s H E F c tk ht hp =>
  (ss_one (s_retN (n_lc [("entry", 1)] rfl nd_log_lines tk ((i_seq fx.hK (ev 0))) (blkOk_by (show blkC N_log_lines (C8.fnScope s_log_lines) _ _ = true from by decide +kernel)) (fun _ _ _ _ _ _ tk1 => (g_name 1 nd_log_lines (by first | exact .inl rfl | exact .inr rfl))) (fun _ _ _ _ _ _ tk1 => ts_nil) (fun _ _ _ _ _ _ tk1 => (e_call (ct_blk c tk1) F_row_line (by decide) rfl (a_cons (ev 1) a_nil))))))
/-! ### _law_fixed_rows -/
abbrev N__law_fixed_rows : List Str := ["_law_far", "_law_some"]
abbrev s__law_fixed_rows : Stmt := top 27
theorem nd__law_fixed_rows : N__law_fixed_rows.Nodup := by decide
def m__law_fixed_rows : MS := (msSeq (msSet 0 (m2 opPow (mC (.int 10)) (mC (.int 59))))
  (msSeq (msSet 1 (mN (mLst (maCons (mTup (maCons (mC (.str "hear")) (maCons (mC (.int 0)) (maCons (mC (.str "a")) maNil)))) (maCons (mTup (maCons (mC (.str "hear")) (maCons (mVar 0) (maCons (mC (.str "abcz")) maNil)))) (maCons (mTup (maCons (mC (.str "do")) (maCons (mC (.str "ann")) (maCons (mC (.str "dig")) (maCons (mC (.int 0)) maNil))))) (maCons (mTup (maCons (mC (.str "do")) (maCons (mC (.str "zzzzzzzz")) (maCons (mC (.str "a")) (maCons (mVar 0) maNil))))) maNil)))))))
  (msRet (m2 opAddL (mVar 1) (mN (mLst (maCons (mTup (maCons (mC (.str "tell")) (maCons (mC (.str "dig")) (maCons (mC (.str "bob")) (maCons (mC (.int 2)) maNil))))) (maCons (mTup (maCons (mC (.str "tell")) (maCons (mC (.str "a")) (maCons (mC (.str "zzzzzzzz")) (maCons (mVar 0) maNil))))) (maCons (mTup (maCons (mC (.str "hear")) (maCons (mC (.int 10)) (maCons (mC (.str "zz")) maNil)))) maNil)))))))))
def f__law_fixed_rows := mDef 2 0 m__law_fixed_rows
theorem b__law_fixed_rows {fa : Addr} {cdv : Value} (fx : Fx w K mg P) : Bd Pg w K mg base N__law_fixed_rows "_law_fixed_rows" (C8.fnScope s__law_fixed_rows) fa cdv 0 (C8.fnBody s__law_fixed_rows) P m__law_fixed_rows := fun A outer s H E F c tk ht hp =>
  (ss_cons (s_set 0 nd__law_fixed_rows (by first | exact .inl rfl | exact .inr rfl) (x_pow (w_of e_int) (w_of e_int)))
  (ss_cons (s_set 1 nd__law_fixed_rows (by first | exact .inl rfl | exact .inr rfl) (e_of (n_lst (a_cons (e_tup (a_cons (e_str (by decide +kernel)) (a_cons e_int (a_cons (e_str (by decide +kernel)) a_nil)))) (a_cons (e_tup (a_cons (e_str (by decide +kernel)) (a_cons (ev 0) (a_cons (e_str (by decide +kernel)) a_nil)))) (a_cons (e_tup (a_cons (e_str (by decide +kernel)) (a_cons (e_str (by decide +kernel)) (a_cons (e_str (by decide +kernel)) (a_cons e_int a_nil))))) (a_cons (e_tup (a_cons (e_str (by decide +kernel)) (a_cons (e_str (by decide +kernel)) (a_cons (e_str (by decide +kernel)) (a_cons (ev 0) a_nil))))) a_nil)))))))
  (ss_one (s_ret (x_add fx.hK (w_of (ev 1)) (w_of (e_of (n_lst (a_cons (e_tup (a_cons (e_str (by decide +kernel)) (a_cons (e_str (by decide +kernel)) (a_cons (e_str (by decide +kernel)) (a_cons e_int a_nil))))) (a_cons (e_tup (a_cons (e_str (by decide +kernel)) (a_cons (e_str (by decide +kernel)) (a_cons (e_str (by decide +kernel)) (a_cons (ev 0) a_nil))))) (a_cons (e_tup (a_cons (e_str (by decide +kernel)) (a_cons e_int (a_cons (e_str (by decide +kernel)) a_nil)))) a_nil)))))))))))
/-! ### _law_line_of -/
abbrev N__law_line_of : List Str := ["_law_step", "_law_part"]
abbrev s__law_line_of : Stmt := top 28
theorem nd__law_line_of : N__law_line_of.Nodup := by decide
def m__law_line_of : MS := (msRet (m2 opJoin (asStr (mC (.str " "))) (mN (mLc (miSeq (mVar 0)) (([("_law_part", 1)] : List (Str × Nat)).map (·.2)) (tgN 1) mtYes (mCB fStr (maCons (mVar 1) maNil))))))
def f__law_line_of := mDef 2 1 m__law_line_of
theorem b__law_line_of {fa : Addr} {cdv : Value} (fx : Fx w K mg P) : Bd Pg w K mg base N__law_line_of "_law_line_of" (C8.fnScope s__law_line_of) fa cdv 0 (C8.fnBody s__law_line_of) P m__law_line_of := fun A outer s H E F c tk ht hp =>
  (ss_one (s_ret (e_join fx.hK (e_str (by decide +kernel)) (w_of (e_of (n_lc [("_law_part", 1)] rfl nd__law_line_of tk ((i_seq fx.hK (ev 0))) (blkOk_by (show blkC N__law_line_of (C8.fnScope s__law_line_of) _ _ = true from by decide +kernel)) (fun _ _ _ _ _ _ tk1 => (g_name 1 nd__law_line_of (by first | exact .inl rfl | exact .inr rfl))) (fun _ _ _ _ _ _ tk1 => ts_nil) (fun _ _ _ _ _ _ tk1 => (x_str rfl fx.z_str (w_of (ev 1))))))))))
/-! ### _law_draw -/
abbrev N__law_draw : List Str := ["_law_rng", "_law_many", "_law_at", "_law_cell", "_law_mixed", "_law_figure"]
abbrev s__law_draw : Stmt := top 26
theorem nd__law_draw : N__law_draw.Nodup := by decide
def m__law_draw : MS := (msSeq (msSetIx 0 (mC (.int 3)) (m2 opAddL (m2S opIxS (mVar 0) (mC (.int 3))) (mC (.int 1))))
  (msSeq (msIf (mtE (m2 opGt (m2S opIxS (mVar 0) (mC (.int 2))) (mC (.int 0)))) (msSeq (msSet 5 (m2 opMod (m2S opIxS (mVar 0) (mC (.int 2))) (mVar 1)))
  (msSeq (msSetIx 0 (mC (.int 2)) (m2 opFdiv (m2S opIxS (mVar 0) (mC (.int 2))) (mVar 1)))
  (msRet (mVar 5)))) msNil)
  (msSeq (msSet 2 (m2S opIxS (mVar 0) (mC (.int 1))))
  (msSeq (msSetIx 0 (mC (.int 1)) (m2 opAddL (mVar 2) (mC (.int 1))))
  (msSeq (msSet 3 (mIf (mtE (m2 opNe (m2S opIxS (mVar 0) (mC (.int 0))) (mN (mLst maNil)))) (m2 opIx (m2S opIxS (mVar 0) (mC (.int 0))) (m2 opMod (mVar 2) (mCB fLen (maCons (m2S opIxS (mVar 0) (mC (.int 0))) maNil)))) (mC (.int 7))))
  (msSeq (msIf (mtAnd (mtE (m2 opGe (mVar 3) (m2 opPow (mC (.int 10)) (mC (.int 18))))) (mtE (m2 opLt (mVar 2) (mCB fLen (maCons (m2S opIxS (mVar 0) (mC (.int 0))) maNil))))) (msSeq (msSetIx 0 (mC (.int 2)) (m2 opFdiv (mVar 3) (mVar 1)))
  (msRet (m2 opMod (mVar 3) (mVar 1)))) msNil)
  (msSeq (msSet 4 (m2 opMod (m2 opPow (m2 opAddL (m2 opAddL (m2 opMod (mVar 3) (mC (.int 2147483549))) (m2 opMulS (mC (.int 60013)) (m2S opIxS (mVar 0) (mC (.int 3))))) (mC (.int 29))) (mC (.int 5))) (mC (.int 2147483587))))
  (msRet (m2 opMod (m2 opFdiv (m2 opMod (m2 opPow (m2 opAddL (mVar 4) (m2 opMulS (mC (.int 9697)) (m2S opIxS (mVar 0) (mC (.int 3))))) (mC (.int 5))) (mC (.int 2147483563))) (mC (.int 64))) (mVar 1))))))))))
def f__law_draw := mDef 6 2 m__law_draw
theorem b__law_draw {fa : Addr} {cdv : Value} (fx : Fx w K mg P) : Bd Pg w K mg base N__law_draw "_law_draw" (C8.fnScope s__law_draw) fa cdv 0 (C8.fnBody s__law_draw) P m__law_draw := fun A outer s H E F c tk ht hp =>
  (ss_cons (s_setIx 0 (tv 0) e_int (x_add fx.hK (w_of (e_ixB fx.hK (ev 0) e_int)) (w_of e_int)))
  (ss_cons (s_if (q_gt (w_of (e_ixB fx.hK (ev 0) e_int)) (w_of e_int)) (ss_cons (s_set 5 nd__law_draw (by first | exact .inl rfl | exact .inr rfl) (x_mod (w_of (e_ixB fx.hK (ev 0) e_int)) (w_of (ev 1))))
  (ss_cons (s_setIx 0 (tv 0) e_int (x_div (w_of (e_ixB fx.hK (ev 0) e_int)) (w_of (ev 1))))
  (ss_one (s_ret (ev 5))))) ss_nil)
  (ss_cons (s_set 2 nd__law_draw (by first | exact .inl rfl | exact .inr rfl) (e_ixB fx.hK (ev 0) e_int))
  (ss_cons (s_setIx 0 (tv 0) e_int (x_add fx.hK (w_of (ev 2)) (w_of e_int)))
  (ss_cons (s_set 3 nd__law_draw (by first | exact .inl rfl | exact .inr rfl) (e_if (q_ne fx.hK c (w_of (e_ixB fx.hK (ev 0) e_int)) (w_of (e_of (n_lst a_nil)))) (e_ix fx.hK (w_of (e_ixB fx.hK (ev 0) e_int)) (w_of (x_mod (w_of (ev 2)) (w_of (x_len fx.hK rfl fx.z_len (w_of (e_ixB fx.hK (ev 0) e_int))))))) e_int))
  (ss_cons (s_if (PW.pt (w_and (q_ge (w_of (ev 3)) (w_of (x_pow (w_of e_int) (w_of e_int)))) (w_and1 (q_lt (w_of (ev 2)) (w_of (x_len fx.hK rfl fx.z_len (w_of (e_ixB fx.hK (ev 0) e_int)))))))) (ss_cons (s_setIx 0 (tv 0) e_int (x_div (w_of (ev 3)) (w_of (ev 1))))
  (ss_one (s_ret (x_mod (w_of (ev 3)) (w_of (ev 1)))))) ss_nil)
  (ss_cons (s_set 4 nd__law_draw (by first | exact .inl rfl | exact .inr rfl) (x_mod (w_of (x_pow (w_of (x_add fx.hK (w_of (x_add fx.hK (w_of (x_mod (w_of (ev 3)) (w_of e_int))) (w_of (x_mul (w_of e_int) (w_of (e_ixB fx.hK (ev 0) e_int)))))) (w_of e_int))) (w_of e_int))) (w_of e_int)))
  (ss_one (s_ret (x_mod (w_of (x_div (w_of (x_mod (w_of (x_pow (w_of (x_add fx.hK (w_of (ev 4)) (w_of (x_mul (w_of e_int) (w_of (e_ixB fx.hK (ev 0) e_int)))))) (w_of e_int))) (w_of e_int))) (w_of e_int))) (w_of (ev 1))))))))))))
/-! ### _law_modified_line -/
abbrev N__law_modified_line : List Str := ["_law_rng", "_law_page", "_law_some", "_law_lots", "_law_parts", "_law_chars", "_law_at", "_law_spot", "_law_part", "_law_char"]
abbrev s__law_modified_line : Stmt := top 36
theorem nd__law_modified_line : N__law_modified_line.Nodup := by decide
def m__law_modified_line : MS := (msSeq (msPar 4 5 (mN (m2N opSplit (asStr (mVar 1)) (mC (.str " ")))) (mC (.str "a0-,. 9ZJ")))
  (msSeq (msPar 6 7 (mCall 2 f__law_draw (maCons (mVar 0) (maCons (mCB fLen (maCons (mVar 4) maNil)) maNil))) (mCall 2 f__law_draw (maCons (mVar 0) (maCons (m2 opAddL (mCB fLen (maCons (mVar 1) maNil)) (mC (.int 1))) maNil))))
  (msSeq (msSet 2 (mN (mLst (maCons (mC (.str "hear")) (maCons (mC (.str "tell")) (maCons (mC (.str "-")) (maCons (mC (.str "ann")) (maCons (mC (.str "abcde")) (maCons (mC (.str "0")) (maCons (mC (.str "07")) (maCons (mC (.str "")) (maCons (mC (.str "01")) (maCons (mC (.str "-1")) (maCons (mC (.str "abcdefghi")) (maCons (mC (.str "Do")) maNil)))))))))))))))
  (msSeq (msPar 8 9 (m2 opIx (mVar 2) (mCall 2 f__law_draw (maCons (mVar 0) (maCons (mC (.int 12)) maNil)))) (m2 opIx (mVar 5) (mCall 2 f__law_draw (maCons (mVar 0) (maCons (mC (.int 9)) maNil)))))
  (msSeq (msSet 3 (mN (mLst (maCons (m2 opJoin (asStr (mC (.str " "))) (m2 opAddL (mSl (mVar 4) moN (moS (mVar 6))) (mSl (mVar 4) (moS (m2 opAddL (mVar 6) (mC (.int 1)))) moN))) (maCons (m2 opJoin (asStr (mC (.str " "))) (m2 opAddL (m2 opAddL (mSl (mVar 4) moN (moS (mVar 6))) (mN (mLst (maCons (mVar 8) maNil)))) (mSl (mVar 4) (moS (mVar 6)) moN))) maNil)))))
  (msSeq (msSet 3 (m2 opAddL (mVar 3) (mN (mLst (maCons (m2 opJoin (asStr (mC (.str " "))) (m2 opAddL (m2 opAddL (mSl (mVar 4) moN (moS (mVar 6))) (mN (mLst (maCons (mVar 8) maNil)))) (mSl (mVar 4) (moS (m2 opAddL (mVar 6) (mC (.int 1)))) moN))) (maCons (m2 opAddL (m2 opAddL (mSl (mVar 1) moN (moS (mVar 7))) (mVar 9)) (mSl (mVar 1) (moS (mVar 7)) moN)) maNil))))))
  (msRet (m2 opIx (m2 opAddL (mVar 3) (mN (mLst (maCons (m2 opAddL (mSl (mVar 1) moN (moS (mVar 7))) (mSl (mVar 1) (moS (m2 opAddL (mVar 7) (mC (.int 1)))) moN)) (maCons (m2 opAddL (mVar 1) (mC (.str " "))) maNil))))) (mCall 2 f__law_draw (maCons (mVar 0) (maCons (mC (.int 6)) maNil)))))))))))
def f__law_modified_line := mDef 10 2 m__law_modified_line
theorem b__law_modified_line {fa : Addr} {cdv : Value} (fx : Fx w K mg P) (F__law_draw : FdC Pg w K mg base 1 "_law_draw" (spM P 2 f__law_draw)) : Bd Pg w K mg base N__law_modified_line "_law_modified_line" (C8.fnScope s__law_modified_line) fa cdv 1 (C8.fnBody s__law_modified_line) P m__law_modified_line := fun A outer s H E F c tk ht hp =>
  (ss_cons (s_par 4 5 rfl nd__law_modified_line rfl rfl (e_of (n_split (ev 1) (e_str (by decide +kernel)))) (e_str (by decide +kernel)))
  (ss_cons (s_par 6 7 rfl nd__law_modified_line rfl rfl (e_call c F__law_draw (by decide) rfl (a_cons (ev 0) (a_cons (x_len fx.hK rfl fx.z_len (w_of (ev 4))) a_nil))) (e_call c F__law_draw (by decide) rfl (a_cons (ev 0) (a_cons (x_add fx.hK (w_of (x_len fx.hK rfl fx.z_len (w_of (ev 1)))) (w_of e_int)) a_nil))))
  (ss_cons (s_set 2 nd__law_modified_line (by first | exact .inl rfl | exact .inr rfl) (e_of (n_lst (a_cons (e_str (by decide +kernel)) (a_cons (e_str (by decide +kernel)) (a_cons (e_str (by decide +kernel)) (a_cons (e_str (by decide +kernel)) (a_cons (e_str (by decide +kernel)) (a_cons (e_str (by decide +kernel)) (a_cons (e_str (by decide +kernel)) (a_cons (e_str (by decide +kernel)) (a_cons (e_str (by decide +kernel)) (a_cons (e_str (by decide +kernel)) (a_cons (e_str (by decide +kernel)) (a_cons (e_str (by decide +kernel)) a_nil)))))))))))))))
  (ss_cons (s_par 8 9 rfl nd__law_modified_line rfl rfl (e_ix fx.hK (w_of (ev 2)) (w_of (e_call c F__law_draw (by decide) rfl (a_cons (ev 0) (a_cons e_int a_nil))))) (e_ix fx.hK (w_of (ev 5)) (w_of (e_call c F__law_draw (by decide) rfl (a_cons (ev 0) (a_cons e_int a_nil))))))
  (ss_cons (s_set 3 nd__law_modified_line (by first | exact .inl rfl | exact .inr rfl) (e_of (n_lst (a_cons (e_join fx.hK (e_str (by decide +kernel)) (w_of (x_add fx.hK (w_of (e_sl fx.hK (w_of (ev 4)) o_none (o_some (ev 6)))) (w_of (e_sl fx.hK (w_of (ev 4)) (o_some (x_add fx.hK (w_of (ev 6)) (w_of e_int))) o_none))))) (a_cons (e_join fx.hK (e_str (by decide +kernel)) (w_of (x_add fx.hK (w_of (x_add fx.hK (w_of (e_sl fx.hK (w_of (ev 4)) o_none (o_some (ev 6)))) (w_of (e_of (n_lst (a_cons (ev 8) a_nil)))))) (w_of (e_sl fx.hK (w_of (ev 4)) (o_some (ev 6)) o_none))))) a_nil)))))
  (ss_cons (s_set 3 nd__law_modified_line (by first | exact .inl rfl | exact .inr rfl) (x_add fx.hK (w_of (ev 3)) (w_of (e_of (n_lst (a_cons (e_join fx.hK (e_str (by decide +kernel)) (w_of (x_add fx.hK (w_of (x_add fx.hK (w_of (e_sl fx.hK (w_of (ev 4)) o_none (o_some (ev 6)))) (w_of (e_of (n_lst (a_cons (ev 8) a_nil)))))) (w_of (e_sl fx.hK (w_of (ev 4)) (o_some (x_add fx.hK (w_of (ev 6)) (w_of e_int))) o_none))))) (a_cons (x_add fx.hK (w_of (x_add fx.hK (w_of (e_sl fx.hK (w_of (ev 1)) o_none (o_some (ev 7)))) (w_of (ev 9)))) (w_of (e_sl fx.hK (w_of (ev 1)) (o_some (ev 7)) o_none))) a_nil)))))))
  (ss_one (s_ret (e_ix fx.hK (w_of (x_add fx.hK (w_of (ev 3)) (w_of (e_of (n_lst (a_cons (x_add fx.hK (w_of (e_sl fx.hK (w_of (ev 1)) o_none (o_some (ev 7)))) (w_of (e_sl fx.hK (w_of (ev 1)) (o_some (x_add fx.hK (w_of (ev 7)) (w_of e_int))) o_none))) (a_cons (x_add fx.hK (w_of (ev 1)) (w_of (e_str (by decide +kernel)))) a_nil))))))) (w_of (e_call c F__law_draw (by decide) rfl (a_cons (ev 0) (a_cons e_int a_nil)))))))))))))
/-! ### number_in -/
abbrev N_number_in : List Str := ["text", "sign"]
abbrev s_number_in : Stmt := top 14
theorem nd_number_in : N_number_in.Nodup := by decide
def m_number_in : MS := (msSeq (msIf (mtOr (mtNot (mtE (mChain opLe opLe (mC (.int 1)) (mCB fLen (maCons (mVar 0) maNil)) (mC (.int 60))))) (mtNot (mtE (mCB fAll (maCons (mN (mLc (miSeq (mVar 0)) (([("sign", 1)] : List (Str × Nat)).map (·.2)) (tgN 1) mtYes (m2 (inD false) (mVar 1) (mC (.str "0123456789"))))) maNil))))) (msRet (mC .non)) msNil)
  (msRet (mIf (mtOr (mtE (m2 opEq (mVar 0) (mC (.str "0")))) (mtE (m2 opNe (m2 opIx (mVar 0) (mC (.int 0))) (mC (.str "0"))))) (mCB fInt (maCons (mVar 0) maNil)) (mC .non))))
def f_number_in := mDef 2 1 m_number_in
theorem b_number_in {fa : Addr} {cdv : Value} (fx : Fx w K mg P) : Bd Pg w K mg base N_number_in "number_in" (C8.fnScope s_number_in) fa cdv 0 (C8.fnBody s_number_in) P m_number_in := fun A outer s H E F c tk ht hp =>
  (ss_cons (s_if (PW.pt (w_or (t_not (q_lele (w_of e_int) (w_of (x_len fx.hK rfl fx.z_len (w_of (ev 0)))) (w_of (e_gint rfl fx.g_MOST_FIGURES)))) (w_or1 (t_not (t_val (x_all fx.hK rfl rfl fx.z_all (w_of (e_of (n_lc [("sign", 1)] rfl nd_number_in tk ((i_seq fx.hK (ev 0))) (blkOk_by (show blkC N_number_in (C8.fnScope s_number_in) _ _ = true from by decide +kernel)) (fun _ _ _ _ _ _ tk1 => (g_name 1 nd_number_in (by first | exact .inl rfl | exact .inr rfl))) (fun _ _ _ _ _ _ tk1 => ts_nil) (fun _ _ _ _ _ _ tk1 => (x_in fx.hK (ct_blk c tk1) (w_of (ev 1)) (w_of (e_gstr rfl fx.g_FIGURES))))))))))))) (ss_one (s_ret e_non)) ss_nil)
  (ss_one (s_ret (e_if (PW.pt (w_or (q_eq fx.hK c (w_of (ev 0)) (w_of (e_str (by decide +kernel)))) (w_or1 (q_ne fx.hK c (w_of (e_ix fx.hK (w_of (ev 0)) (w_of e_int))) (w_of (e_str (by decide +kernel))))))) (x_int rfl fx.z_int (w_of (ev 0))) e_non))))
/-! ### is_lettered -/
abbrev N_is_lettered : List Str := ["thing", "most", "sign"]
abbrev s_is_lettered : Stmt := top 8
theorem nd_is_lettered : N_is_lettered.Nodup := by decide
def m_is_lettered : MS := (msSeq (msIf (mtOr (mtNot (mtE (m1 (fIsi "str") (mVar 0)))) (mtNot (mtE (mChain opLe opLe (mC (.int 1)) (mCB fLen (maCons (mVar 0) maNil)) (mVar 1))))) (msRet (mC (.bl false))) msNil)
  (msRet (mCB fAll (maCons (mN (mLc (miSeq (mVar 0)) (([("sign", 2)] : List (Str × Nat)).map (·.2)) (tgN 2) mtYes (m2 (inD false) (mVar 2) (mC (.str "abcdefghijklmnopqrstuvwxyz"))))) maNil))))
def f_is_lettered := mDef 3 2 m_is_lettered
theorem b_is_lettered {fa : Addr} {cdv : Value} (fx : Fx w K mg P) : Bd Pg w K mg base N_is_lettered "is_lettered" (C8.fnScope s_is_lettered) fa cdv 0 (C8.fnBody s_is_lettered) P m_is_lettered := fun A outer s H E F c tk ht hp =>
  (ss_cons (s_if (PW.pt (w_or (t_not (t_val (x_isi (T := "str") fx.hK rfl fx.z_isinstance (w_of (ev 0)) rfl fx.z_str (by decide +kernel)))) (w_or1 (t_not (q_lele (w_of e_int) (w_of (x_len fx.hK rfl fx.z_len (w_of (ev 0)))) (w_of (ev 1))))))) (ss_one (s_ret e_bl)) ss_nil)
  (ss_one (s_ret (x_all fx.hK rfl rfl fx.z_all (w_of (e_of (n_lc [("sign", 2)] rfl nd_is_lettered tk ((i_seq fx.hK (ev 0))) (blkOk_by (show blkC N_is_lettered (C8.fnScope s_is_lettered) _ _ = true from by decide +kernel)) (fun _ _ _ _ _ _ tk1 => (g_name 2 nd_is_lettered (by first | exact .inl rfl | exact .inr rfl))) (fun _ _ _ _ _ _ tk1 => ts_nil) (fun _ _ _ _ _ _ tk1 => (x_in fx.hK (ct_blk c tk1) (w_of (ev 2)) (w_of (e_gstr rfl fx.g_LETTERS)))))))))))
/-! ### is_word -/
abbrev N_is_word : List Str := ["thing"]
abbrev s_is_word : Stmt := top 10
theorem nd_is_word : N_is_word.Nodup := by decide
def m_is_word : MS := (msRet (mCall 2 f_is_lettered (maCons (mVar 0) (maCons (mC (.int 4)) maNil))))
def f_is_word := mDef 1 1 m_is_word
theorem b_is_word {fa : Addr} {cdv : Value} (fx : Fx w K mg P) (F_is_lettered : FdC Pg w K mg base 1 "is_lettered" (spM P 2 f_is_lettered)) : Bd Pg w K mg base N_is_word "is_word" (C8.fnScope s_is_word) fa cdv 1 (C8.fnBody s_is_word) P m_is_word := fun A outer s H E F c tk ht hp =>
  (ss_one (s_ret (e_call c F_is_lettered (by decide) rfl (a_cons (ev 0) (a_cons (e_gint rfl fx.g_LONGEST_WORD) a_nil)))))
/-! ### word_in -/
abbrev N_word_in : List Str := ["text"]
abbrev s_word_in : Stmt := top 16
theorem nd_word_in : N_word_in.Nodup := by decide
def m_word_in : MS := (msRet (mIf (mtE (mCall 1 f_is_word (maCons (mVar 0) maNil))) (mVar 0) (mC .non)))
def f_word_in := mDef 1 1 m_word_in
theorem b_word_in {fa : Addr} {cdv : Value} (fx : Fx w K mg P) (F_is_word : FdC Pg w K mg base 2 "is_word" (spM P 1 f_is_word)) : Bd Pg w K mg base N_word_in "word_in" (C8.fnScope s_word_in) fa cdv 2 (C8.fnBody s_word_in) P m_word_in := fun A outer s H E F c tk ht hp =>
  (ss_one (s_ret (e_if (t_val (e_call c F_is_word (by decide) rfl (a_cons (ev 0) a_nil))) (ev 0) e_non)))
/-! ### is_name -/
abbrev N_is_name : List Str := ["thing"]
abbrev s_is_name : Stmt := top 9
theorem nd_is_name : N_is_name.Nodup := by decide
def m_is_name : MS := (msRet (mCall 2 f_is_lettered (maCons (mVar 0) (maCons (mC (.int 8)) maNil))))
def f_is_name := mDef 1 1 m_is_name
theorem b_is_name {fa : Addr} {cdv : Value} (fx : Fx w K mg P) (F_is_lettered : FdC Pg w K mg base 1 "is_lettered" (spM P 2 f_is_lettered)) : Bd Pg w K mg base N_is_name "is_name" (C8.fnScope s_is_name) fa cdv 1 (C8.fnBody s_is_name) P m_is_name := fun A outer s H E F c tk ht hp =>
  (ss_one (s_ret (e_call c F_is_lettered (by decide) rfl (a_cons (ev 0) (a_cons (e_gint rfl fx.g_LONGEST_NAME) a_nil)))))
/-! ### name_in -/
abbrev N_name_in : List Str := ["text"]
abbrev s_name_in : Stmt := top 15
theorem nd_name_in : N_name_in.Nodup := by decide
def m_name_in : MS := (msRet (mIf (mtE (mCall 1 f_is_name (maCons (mVar 0) maNil))) (mVar 0) (mC .non)))
def f_name_in := mDef 1 1 m_name_in
theorem b_name_in {fa : Addr} {cdv : Value} (fx : Fx w K mg P) (F_is_name : FdC Pg w K mg base 2 "is_name" (spM P 1 f_is_name)) : Bd Pg w K mg base N_name_in "name_in" (C8.fnScope s_name_in) fa cdv 2 (C8.fnBody s_name_in) P m_name_in := fun A outer s H E F c tk ht hp =>
  (ss_one (s_ret (e_if (t_val (e_call c F_is_name (by decide) rfl (a_cons (ev 0) a_nil))) (ev 0) e_non)))
/-! ### entry_read -/
def readerFs : Nat → Option (List D → Bxs → R D)
  | 0 => some f_number_in
  | 1 => some f_word_in
  | 2 => some f_name_in
  | _ => none
theorem h_readerFs (fx : Fx w K mg P) (F0 : FdC Pg w K mg base 1 "number_in" (spM P 1 f_number_in)) (F1 : FdC Pg w K mg base 3 "word_in" (spM P 1 f_word_in)) (F2 : FdC Pg w K mg base 3 "name_in" (spM P 1 f_name_in)) : ∀ q f, readerFs q = some f → ∃ fd ps, FnG Pg w K mg base 3 (P.fa q) fd ps (spM P 1 f) ∧ PySem.W.keepIn K (.ref (P.fa q)) = true ∧ Binds K fd ps [] := fun q f e => by
  match q, e with
  | 0, e => cases e; exact reader_of F0 fx.fa0 (by decide)
  | 1, e => cases e; exact reader_of F1 fx.fa1 (by decide)
  | 2, e => cases e; exact reader_of F2 fx.fa2 (by decide)
  | n + 3, e => cases e
abbrev N_entry_read : List Str := ["text", "number", "readers", "found", "kind", "parts", "reader", "part"]
abbrev s_entry_read : Stmt := top 18
theorem nd_entry_read : N_entry_read.Nodup := by decide
def m_entry_read : MS := (msSeq (msStar 4 5 (mN (m2N opSplit (asStr (mVar 0)) (mC (.str " ")))))
  (msSeq (msIf (mtE (m1 (kIn true readersT) (mVar 4))) (msRaise 0 2 selR (maCons (mVar 1) (maCons (mC (.int 0)) maNil))) msNil)
  (msSeq (msSet 2 (m1 (kGet readersT) (mVar 4)))
  (msSeq (msLst 3 (mLc (miZip (maCons (mVar 2) (maCons (mVar 5) maNil))) (([("reader", 6), ("part", 7)] : List (Str × Nat)).map (·.2)) (tgT 2 (tgCons (tgN 6) (tgCons (tgN 7) tgNil))) mtYes (mCallL readerFs 1 6 (maCons (mVar 7) maNil))))
  (msSeq (msIf (mtE (m2 (inD false) (mC .non) (mVar 3))) (msRaise 0 2 selR (maCons (mVar 1) (maCons (m2 opAddL (mIndex (mVar 3) (mC .non)) (mC (.int 1))) maNil))) msNil)
  (msSeq (msIf (mtE (m2 opNe (mCB fLen (maCons (mVar 5) maNil)) (mCB fLen (maCons (mVar 2) maNil)))) (msRaise 0 2 selR (maCons (mVar 1) (maCons (m2 opAddL (mCB fMin (maCons (mCB fLen (maCons (mVar 5) maNil)) (maCons (mCB fLen (maCons (mVar 2) maNil)) maNil))) (mC (.int 1))) maNil))) msNil)
  (msRet (m2 opAddL (mTup (maCons (mVar 4) maNil)) (mCB fTup (maCons (mVar 3) maNil))))))))))
def f_entry_read := mDef 8 2 m_entry_read
theorem b_entry_read {fa : Addr} {cdv : Value} (hI : K.In base ∧ base.Ns mainGlobals mg) (fx : Fx w K mg P) (F_number_in : FdC Pg w K mg base 1 "number_in" (spM P 1 f_number_in)) (F_word_in : FdC Pg w K mg base 3 "word_in" (spM P 1 f_word_in)) (F_name_in : FdC Pg w K mg base 3 "name_in" (spM P 1 f_name_in)) : Bd Pg w K mg base N_entry_read "entry_read" (C8.fnScope s_entry_read) fa cdv 3 (C8.fnBody s_entry_read) P m_entry_read := fun A outer s H E F c tk ht hp =>
  (ss_cons (s_star 4 5 fx.hK rfl nd_entry_read rfl rfl (w_of (e_of (n_split (ev 0) (e_str (by decide +kernel))))))
  (ss_cons (s_if (t_knin fx.k_READERS rfl fx.d_READERS (w_of (ev 4))) (ss_one (x_raise fx c ht (a_cons (ev 1) (a_cons e_int a_nil)) hI)) ss_nil)
  (ss_cons (s_set 2 nd_entry_read (by first | exact .inl rfl | exact .inr rfl) (e_kget fx.k_READERS rfl fx.d_READERS (w_of (ev 4))))
  (ss_cons (s_lc (k := msLst 3 (mLc (miZip (maCons (mVar 2) (maCons (mVar 5) maNil))) (([("reader", 6), ("part", 7)] : List (Str × Nat)).map (·.2)) (tgT 2 (tgCons (tgN 6) (tgCons (tgN 7) tgNil))) mtYes (mCallL readerFs 1 6 (maCons (mVar 7) maNil)))) 3 [("reader", 6), ("part", 7)] (fun h q => asgLst 3 h q) rfl nd_entry_read tk rfl ((i_zip fx.hK rfl fx.z_zip (aw_cons (w_of (ev 2)) (aw_cons (w_of (ev 5)) aw_nil)))) (blkOk_by (show blkC N_entry_read (C8.fnScope s_entry_read) _ _ = true from by decide +kernel)) (fun _ _ _ _ _ _ tk1 => (g_tup fx.hK rfl (gs_cons (g_name 6 nd_entry_read (by first | exact .inl rfl | exact .inr rfl)) (gs_cons (g_name 7 nd_entry_read (by first | exact .inl rfl | exact .inr rfl)) gs_nil)))) (fun _ _ _ _ _ _ tk1 => ts_nil) (fun _ _ _ _ _ _ tk1 => (e_callL (ct_blk c tk1) (h_readerFs fx F_number_in F_word_in F_name_in) (by decide) (tv 6) (a_cons (ev 7) a_nil))))
  (ss_cons (s_if (q_in fx.hK c (w_of e_non) (w_of (ev 3))) (ss_one (x_raise fx c ht (a_cons (ev 1) (a_cons (x_add fx.hK (w_of (e_index fx.hK c.hu (w_of (ev 3)) (w_of e_non))) (w_of e_int)) a_nil)) hI)) ss_nil)
  (ss_cons (s_if (q_ne fx.hK c (w_of (x_len fx.hK rfl fx.z_len (w_of (ev 5)))) (w_of (x_len fx.hK rfl fx.z_len (w_of (ev 2))))) (ss_one (x_raise fx c ht (a_cons (ev 1) (a_cons (x_add fx.hK (w_of (x_min2 rfl rfl fx.z_min (w_of (x_len fx.hK rfl fx.z_len (w_of (ev 5)))) (w_of (x_len fx.hK rfl fx.z_len (w_of (ev 2)))))) (w_of e_int)) a_nil)) hI)) ss_nil)
  (ss_one (s_ret (x_add fx.hK (w_of (e_tup (a_cons (ev 4) a_nil))) (w_of (x_tuple fx.hK rfl fx.z_tuple (w_of (ev 3)))))))))))))
/-! ### read_row -/
abbrev N_read_row : List Str := ["text"]
abbrev s_read_row : Stmt := top 19
theorem nd_read_row : N_read_row.Nodup := by decide
def m_read_row : MS := (msRet (mCall 2 f_entry_read (maCons (mVar 0) (maCons (mC (.int 0)) maNil))))
def f_read_row := mDef 1 1 m_read_row
theorem b_read_row {fa : Addr} {cdv : Value} (fx : Fx w K mg P) (F_entry_read : FdC Pg w K mg base 4 "entry_read" (spM P 2 f_entry_read)) : Bd Pg w K mg base N_read_row "read_row" (C8.fnScope s_read_row) fa cdv 4 (C8.fnBody s_read_row) P m_read_row := fun A outer s H E F c tk ht hp =>
  (ss_one (s_ret (e_call c F_entry_read (by decide) rfl (a_cons (ev 0) (a_cons e_int a_nil)))))
/-! ### _law_is_lowercase -/
abbrev N__law_is_lowercase : List Str := ["_law_part", "_law_most", "_law_char"]
abbrev s__law_is_lowercase : Stmt := top 30
theorem nd__law_is_lowercase : N__law_is_lowercase.Nodup := by decide
def m__law_is_lowercase : MS := (msSeq (msIf (mtNot (mtE (mChain opLe opLe (mC (.int 1)) (mCB fLen (maCons (mVar 0) maNil)) (mVar 1)))) (msRet (mC (.bl false))) msNil)
  (msRet (m2 opEq (mN (mLc (miSeq (mVar 0)) (([("_law_char", 2)] : List (Str × Nat)).map (·.2)) (tgN 2) (mtE (m2 (inD true) (mVar 2) (mC (.str "abcdefghijklmnopqrstuvwxyz")))) (mVar 2))) (mN (mLst maNil)))))
def f__law_is_lowercase := mDef 3 2 m__law_is_lowercase
theorem b__law_is_lowercase {fa : Addr} {cdv : Value} (fx : Fx w K mg P) : Bd Pg w K mg base N__law_is_lowercase "_law_is_lowercase" (C8.fnScope s__law_is_lowercase) fa cdv 0 (C8.fnBody s__law_is_lowercase) P m__law_is_lowercase := fun A outer s H E F c tk ht hp =>
  (ss_cons (s_if (t_not (q_lele (w_of e_int) (w_of (x_len fx.hK rfl fx.z_len (w_of (ev 0)))) (w_of (ev 1)))) (ss_one (s_ret e_bl)) ss_nil)
  (ss_one (s_ret (x_eq fx.hK c (w_of (e_of (n_lc [("_law_char", 2)] rfl nd__law_is_lowercase tk ((i_seq fx.hK (ev 0))) (blkOk_by (show blkC N__law_is_lowercase (C8.fnScope s__law_is_lowercase) _ _ = true from by decide +kernel)) (fun _ _ _ _ _ _ tk1 => (g_name 2 nd__law_is_lowercase (by first | exact .inl rfl | exact .inr rfl))) (fun _ _ _ _ _ _ tk1 => (ts_one (q_nin fx.hK (ct_blk c tk1) (w_of (ev 2)) (w_of (e_str (by decide +kernel)))))) (fun _ _ _ _ _ _ tk1 => (ev 2))))) (w_of (e_of (n_lst a_nil)))))))
/-! ### _law_parsed_part -/
abbrev N__law_parsed_part : List Str := ["_law_sort", "_law_part", "_law_is_right", "_law_char"]
abbrev s__law_parsed_part : Stmt := top 31
theorem nd__law_parsed_part : N__law_parsed_part.Nodup := by decide
def m__law_parsed_part : MS := (msSeq (msIf (mtE (m2 opEq (mVar 0) (mC (.str "count")))) (msSeq (msSet 2 (mAnd (mChain opLe opLe (mC (.int 1)) (mCB fLen (maCons (mVar 1) maNil)) (mC (.int 60))) (m2 opEq (mN (mLc (miSeq (mVar 1)) (([("_law_char", 3)] : List (Str × Nat)).map (·.2)) (tgN 3) (mtE (m2 (inD true) (mVar 3) (mC (.str "0123456789")))) (mVar 3))) (mN (mLst maNil)))))
  (msRet (mIf (mtAnd (mtE (mVar 2)) (mtOr (mtE (m2 opNe (m2 opIx (mVar 1) (mC (.int 0))) (mC (.str "0")))) (mtE (m2 opEq (mVar 1) (mC (.str "0")))))) (mN (mLst (maCons (mCB fInt (maCons (mVar 1) maNil)) maNil))) (mN (mLst maNil))))) msNil)
  (msRet (mIf (mtE (mCall 2 f__law_is_lowercase (maCons (mVar 1) (maCons (mIf (mtE (m2 opEq (mVar 0) (mC (.str "spell")))) (mC (.int 4)) (mC (.int 8))) maNil)))) (mN (mLst (maCons (mVar 1) maNil))) (mN (mLst maNil)))))
def f__law_parsed_part := mDef 4 2 m__law_parsed_part
theorem b__law_parsed_part {fa : Addr} {cdv : Value} (fx : Fx w K mg P) (F__law_is_lowercase : FdC Pg w K mg base 1 "_law_is_lowercase" (spM P 2 f__law_is_lowercase)) : Bd Pg w K mg base N__law_parsed_part "_law_parsed_part" (C8.fnScope s__law_parsed_part) fa cdv 1 (C8.fnBody s__law_parsed_part) P m__law_parsed_part := fun A outer s H E F c tk ht hp =>
  (ss_cons (s_if (q_eq fx.hK c (w_of (ev 0)) (w_of (e_str (by decide +kernel)))) (ss_cons (s_set 2 nd__law_parsed_part (by first | exact .inl rfl | exact .inr rfl) (e_and (x_lele (w_of e_int) (w_of (x_len fx.hK rfl fx.z_len (w_of (ev 1)))) (w_of e_int)) (e_one (x_eq fx.hK c (w_of (e_of (n_lc [("_law_char", 3)] rfl nd__law_parsed_part tk ((i_seq fx.hK (ev 1))) (blkOk_by (show blkC N__law_parsed_part (C8.fnScope s__law_parsed_part) _ _ = true from by decide +kernel)) (fun _ _ _ _ _ _ tk1 => (g_name 3 nd__law_parsed_part (by first | exact .inl rfl | exact .inr rfl))) (fun _ _ _ _ _ _ tk1 => (ts_one (q_nin fx.hK (ct_blk c tk1) (w_of (ev 3)) (w_of (e_str (by decide +kernel)))))) (fun _ _ _ _ _ _ tk1 => (ev 3))))) (w_of (e_of (n_lst a_nil)))))))
  (ss_one (s_ret (e_if (PW.pt (w_and (t_val (ev 2)) (w_and1 (PW.pt (w_or (q_ne fx.hK c (w_of (e_ix fx.hK (w_of (ev 1)) (w_of e_int))) (w_of (e_str (by decide +kernel)))) (w_or1 (q_eq fx.hK c (w_of (ev 1)) (w_of (e_str (by decide +kernel)))))))))) (e_of (n_lst (a_cons (x_int rfl fx.z_int (w_of (ev 1))) a_nil))) (e_of (n_lst a_nil)))))) ss_nil)
  (ss_one (s_ret (e_if (t_val (e_call c F__law_is_lowercase (by decide) rfl (a_cons (ev 1) (a_cons (e_if (q_eq fx.hK c (w_of (ev 0)) (w_of (e_str (by decide +kernel)))) e_int e_int) a_nil)))) (e_of (n_lst (a_cons (ev 1) a_nil))) (e_of (n_lst a_nil))))))
/-! ### _law_expected_line -/
abbrev N__law_expected_line : List Str := ["_law_page", "_law_at", "_law_forms", "_law_parts", "_law_found", "_law_k", "_law_sort", "_law_worth"]
abbrev s__law_expected_line : Stmt := top 32
theorem nd__law_expected_line : N__law_expected_line.Nodup := by decide
def m__law_expected_line : MS := (msSeq (msSet 2 (mDic [((mC (.str "hear")), (mN (mLst (maCons (mC (.str "count")) (maCons (mC (.str "spell")) maNil))))), ((mC (.str "do")), (mN (mLst (maCons (mC (.str "who")) (maCons (mC (.str "who")) (maCons (mC (.str "count")) maNil)))))), ((mC (.str "tell")), (mN (mLst (maCons (mC (.str "who")) (maCons (mC (.str "who")) (maCons (mC (.str "count")) maNil))))))]))
  (msSeq (msParN 3 4 (mN (m2N opSplit (asStr (mVar 0)) (mC (.str " ")))) (mLst maNil))
  (msSeq (msIf (mtE (m2 (opDIn true) (m2 opIx (mVar 3) (mC (.int 0))) (mVar 2))) (msRet (mTup (maCons (mC (.str "NoText")) (maCons (mVar 1) (maCons (mC (.int 0)) maNil))))) msNil)
  (msSeq (msFor (miEnum (maCons (m2 opDGet (mVar 2) (m2 opIx (mVar 3) (mC (.int 0)))) maNil)) (tgT 2 (tgCons (tgN 5) (tgCons (tgN 6) tgNil))) (msSeq (msSet 7 (mIf (mtE (m2 opLt (m2 opAddL (mVar 5) (mC (.int 1))) (mCB fLen (maCons (mVar 3) maNil)))) (mCall 2 f__law_parsed_part (maCons (mVar 6) (maCons (m2 opIx (mVar 3) (m2 opAddL (mVar 5) (mC (.int 1)))) maNil))) (mN (mLst maNil))))
  (msSeq (msIf (mtE (m2 opEq (mVar 7) (mN (mLst maNil)))) (msRet (mTup (maCons (mC (.str "NoText")) (maCons (mVar 1) (maCons (m2 opAddL (mVar 5) (mC (.int 1))) maNil))))) msNil)
  (msApp 4 (m2 opIx (mVar 7) (mC (.int 0)))))))
  (msSeq (msIf (mtE (m2 opGt (mCB fLen (maCons (mVar 3) maNil)) (m2 opAddL (mCB fLen (maCons (mVarW 4) maNil)) (mC (.int 1))))) (msRet (mTup (maCons (mC (.str "NoText")) (maCons (mVar 1) (maCons (m2 opAddL (mCB fLen (maCons (mVarW 4) maNil)) (mC (.int 1))) maNil))))) msNil)
  (msRet (mTup (maCons (mC (.str "returned")) (maCons (m2 opAddL (mTup (maCons (m2 opIx (mVar 3) (mC (.int 0))) maNil)) (mCB fTup (maCons (mVarW 4) maNil))) maNil)))))))))
def f__law_expected_line := mDef 8 2 m__law_expected_line
theorem b__law_expected_line {fa : Addr} {cdv : Value} (fx : Fx w K mg P) (F__law_parsed_part : FdC Pg w K mg base 2 "_law_parsed_part" (spM P 2 f__law_parsed_part)) : Bd Pg w K mg base N__law_expected_line "_law_expected_line" (C8.fnScope s__law_expected_line) fa cdv 2 (C8.fnBody s__law_expected_line) P m__law_expected_line := fun A outer s H E F c tk ht hp =>
  (ss_cons (s_set 2 nd__law_expected_line (by first | exact .inl rfl | exact .inr rfl) (e_dic (ms := [((mC (.str "hear")), (mN (mLst (maCons (mC (.str "count")) (maCons (mC (.str "spell")) maNil))))), ((mC (.str "do")), (mN (mLst (maCons (mC (.str "who")) (maCons (mC (.str "who")) (maCons (mC (.str "count")) maNil)))))), ((mC (.str "tell")), (mN (mLst (maCons (mC (.str "who")) (maCons (mC (.str "who")) (maCons (mC (.str "count")) maNil))))))]) (p_cons (e_str (by decide +kernel)) (e_of (n_lst (a_cons (e_str (by decide +kernel)) (a_cons (e_str (by decide +kernel)) a_nil)))) (p_cons (e_str (by decide +kernel)) (e_of (n_lst (a_cons (e_str (by decide +kernel)) (a_cons (e_str (by decide +kernel)) (a_cons (e_str (by decide +kernel)) a_nil))))) (p_cons (e_str (by decide +kernel)) (e_of (n_lst (a_cons (e_str (by decide +kernel)) (a_cons (e_str (by decide +kernel)) (a_cons (e_str (by decide +kernel)) a_nil))))) p_nil)))))
  (ss_cons (s_parN 3 4 rfl nd__law_expected_line rfl rfl (e_of (n_split (ev 0) (e_str (by decide +kernel)))) (n_lst a_nil))
  (ss_cons (s_if (t_dnin (hu1 c) (w_of (e_ix fx.hK (w_of (ev 3)) (w_of e_int))) (ev 2)) (ss_one (s_ret (e_tup (a_cons (e_str (by decide +kernel)) (a_cons (ev 1) (a_cons e_int a_nil)))))) ss_nil)
  (ss_cons (s_for (vs := [5, 6]) hp rfl (i_enum fx.hK rfl fx.z_enumerate (e_dget (hu1 c) (ev 2) (w_of (e_ix fx.hK (w_of (ev 3)) (w_of e_int))))) (g_tup fx.hK rfl (gs_cons (g_name 5 nd__law_expected_line (by first | exact .inl rfl | exact .inr rfl)) (gs_cons (g_name 6 nd__law_expected_line (by first | exact .inl rfl | exact .inr rfl)) gs_nil))) (fun _ => (ss_cons (s_set 7 nd__law_expected_line (by first | exact .inl rfl | exact .inr rfl) (e_if (q_lt (w_of (x_add fx.hK (w_of (ev 5)) (w_of e_int))) (w_of (x_len fx.hK rfl fx.z_len (w_of (ev 3))))) (e_call c F__law_parsed_part (by decide) rfl (a_cons (ev 6) (a_cons (e_ix fx.hK (w_of (ev 3)) (w_of (x_add fx.hK (w_of (ev 5)) (w_of e_int)))) a_nil))) (e_of (n_lst a_nil))))
  (ss_cons (s_if (q_eq fx.hK c (w_of (ev 7)) (w_of (e_of (n_lst a_nil)))) (ss_one (s_ret (e_tup (a_cons (e_str (by decide +kernel)) (a_cons (ev 1) (a_cons (x_add fx.hK (w_of (ev 5)) (w_of e_int)) a_nil)))))) ss_nil)
  (ss_one (s_app 4 (tv 4) (e_ix fx.hK (w_of (ev 7)) (w_of e_int))))))))
  (ss_cons (s_if (q_gt (w_of (x_len fx.hK rfl fx.z_len (w_of (ev 3)))) (w_of (x_add fx.hK (w_of (x_len fx.hK rfl fx.z_len (evw 4))) (w_of e_int)))) (ss_one (s_ret (e_tup (a_cons (e_str (by decide +kernel)) (a_cons (ev 1) (a_cons (x_add fx.hK (w_of (x_len fx.hK rfl fx.z_len (evw 4))) (w_of e_int)) a_nil)))))) ss_nil)
  (ss_one (s_ret (e_tup (a_cons (e_str (by decide +kernel)) (a_cons (x_add fx.hK (w_of (e_tup (a_cons (e_ix fx.hK (w_of (ev 3)) (w_of e_int)) a_nil))) (w_of (x_tuple fx.hK rfl fx.z_tuple (evw 4)))) a_nil))))))))))
/-! ### _law_check_rows -/
abbrev N__law_check_rows : List Str := ["_law_rng", "_law_steps", "_law_step", "_law_k", "_law_page", "_law_saved", "_law_bent"]
abbrev s__law_check_rows : Stmt := top 38
theorem nd__law_check_rows : N__law_check_rows.Nodup := by decide
def m__law_check_rows : MS := (msSeq (msFor (miSeq (mVar 1)) (tgN 2) (msSeq (msPar 4 5 (mCall 1 f__law_line_of (maCons (mVar 2) maNil)) (mCB fRepr (maCons (mVar 2) maNil)))
  (msSeq (msIf (mtOr (mtE (m2 opNe (mCall 1 f_row_line (maCons (mVar 2) maNil)) (mVar 4))) (mtOr (mtE (m2 opNe (mCallK 1 (fun _ es => es) 0 1 f_row_line maNil (maCons (mVar 2) maNil)) (mVar 4))) (mtE (m2 opNe (mCB fRepr (maCons (mVar 2) maNil)) (mVar 5))))) (msRet (mC (.bl false))) msNil)
  (msSeq (msIf (mtOr (mtE (m2 opNe (mCB fRepr (maCons (mCall 1 f_read_row (maCons (mVar 4) maNil)) maNil)) (mVar 5))) (mtE (m2 opNe (mCB fRepr (maCons (mCallK 1 (fun _ es => es) 0 1 f_read_row maNil (maCons (mVar 4) maNil)) maNil)) (mVar 5)))) (msRet (mC (.bl false))) msNil)
  (msFor (miRange (maCons (mC (.int 3)) maNil)) (tgN 3) (msSeq (msSet 6 (mCall 2 f__law_modified_line (maCons (mVar 0) (maCons (mVar 4) maNil))))
  (msSeq (msSet 6 (mIf (mtE (m2 opEq (mVar 3) (mC (.int 2)))) (mCall 2 f__law_modified_line (maCons (mVar 0) (maCons (mVar 6) maNil))) (mVar 6)))
  (msIf (mtE (m2 opNe (mCB fRepr (maCons (mOut "returned" "NoText" 0 selW (mCall 1 f_read_row (maCons (mVar 6) maNil))) maNil)) (mCB fRepr (maCons (mCall 2 f__law_expected_line (maCons (mVar 6) (maCons (mC (.int 0)) maNil))) maNil)))) (msRet (mC (.bl false))) msNil))))))))
  (msRet (mC (.bl true))))
def f__law_check_rows := mDef 7 2 m__law_check_rows
theorem b__law_check_rows {fa : Addr} {cdv : Value} (lm : Lm mg base P cdv (("_law_check_rows" : Str) ++ ".<locals>.")) (fx : Fx w K mg P) (F__law_line_of : FdC Pg w K mg base 1 "_law_line_of" (spM P 1 f__law_line_of)) (F_row_line : FdC Pg w K mg base 1 "row_line" (spM P 1 f_row_line)) (F_read_row : FdC Pg w K mg base 5 "read_row" (spM P 1 f_read_row)) (F__law_modified_line : FdC Pg w K mg base 2 "_law_modified_line" (spM P 2 f__law_modified_line)) (F__law_expected_line : FdC Pg w K mg base 3 "_law_expected_line" (spM P 2 f__law_expected_line)) (K_row_line : FkC Pg w K mg base 1 "row_line" (spM P 1 f_row_line) 0 ["entry"] (fun _ es => es)) (K_read_row : FkC Pg w K mg base 5 "read_row" (spM P 1 f_read_row) 0 ["text"] (fun _ es => es)) : Bd Pg w K mg base N__law_check_rows "_law_check_rows" (C8.fnScope s__law_check_rows) fa cdv 7 (C8.fnBody s__law_check_rows) P m__law_check_rows := fun A outer s H E F c tk ht hp =>
  (ss_cons (s_for (vs := [2]) hp rfl (i_seq fx.hK (ev 1)) (g_name 2 nd__law_check_rows (by first | exact .inl rfl | exact .inr rfl)) (fun _ => (ss_cons (s_par 4 5 rfl nd__law_check_rows rfl rfl (e_call c F__law_line_of (by decide) rfl (a_cons (ev 2) a_nil)) (x_repr fx.hK c rfl fx.z_repr (w_of (ev 2))))
  (ss_cons (s_if (PW.pt (w_or (q_ne fx.hK c (w_of (e_call c F_row_line (by decide) rfl (a_cons (ev 2) a_nil))) (w_of (ev 4))) (w_or (q_ne fx.hK c (w_of (e_callK0 (ks := ["entry"]) (gV := fun _ es => es) (gD := fun _ es => es) c K_row_line (fun _ h => h) (by decide) rfl (k_cons (ev 2) k_nil))) (w_of (ev 4))) (w_or1 (q_ne fx.hK c (w_of (x_repr fx.hK c rfl fx.z_repr (w_of (ev 2)))) (w_of (ev 5))))))) (ss_one (s_ret e_bl)) ss_nil)
  (ss_cons (s_if (PW.pt (w_or (q_ne fx.hK c (w_of (x_repr fx.hK c rfl fx.z_repr (w_of (e_call c F_read_row (by decide) rfl (a_cons (ev 4) a_nil))))) (w_of (ev 5))) (w_or1 (q_ne fx.hK c (w_of (x_repr fx.hK c rfl fx.z_repr (w_of (e_callK0 (ks := ["text"]) (gV := fun _ es => es) (gD := fun _ es => es) c K_read_row (fun _ h => h) (by decide) rfl (k_cons (ev 4) k_nil))))) (w_of (ev 5)))))) (ss_one (s_ret e_bl)) ss_nil)
  (ss_one (s_for (vs := [3]) hp rfl (i_range (st := true) rfl fx.z_range (aw_cons (w_of e_int) aw_nil)) (g_name 3 nd__law_check_rows (by first | exact .inl rfl | exact .inr rfl)) (fun _ => (ss_cons (s_set 6 nd__law_check_rows (by first | exact .inl rfl | exact .inr rfl) (e_call c F__law_modified_line (by decide) rfl (a_cons (ev 0) (a_cons (ev 4) a_nil))))
  (ss_cons (s_set 6 nd__law_check_rows (by first | exact .inl rfl | exact .inr rfl) (e_if (q_eq fx.hK c (w_of (ev 3)) (w_of e_int)) (e_call c F__law_modified_line (by decide) rfl (a_cons (ev 0) (a_cons (ev 6) a_nil))) (ev 6)))
  (ss_one (s_if (q_ne fx.hK c (w_of (x_repr fx.hK c rfl fx.z_repr (w_of (x_out fx lm c (fun A outer s H E f c2 hr hg => (have c1 := ct_lam hr hg; (e_call c1 F_read_row (by decide) rfl (a_cons (ev 6) a_nil)))) (hL := (by decide +kernel : LamX.lamSB (C8.fnScope s__law_check_rows) _ = true)))))) (w_of (x_repr fx.hK c rfl fx.z_repr (w_of (e_call c F__law_expected_line (by decide) rfl (a_cons (ev 6) (a_cons e_int a_nil))))))) (ss_one (s_ret e_bl)) ss_nil))))))))))))
  (ss_one (s_ret e_bl)))
/-! ### _law_lines_of -/
abbrev N__law_lines_of : List Str := ["_law_steps", "_law_step"]
abbrev s__law_lines_of : Stmt := top 29
theorem nd__law_lines_of : N__law_lines_of.Nodup := by decide
def m__law_lines_of : MS := (msRetN (mLc (miSeq (mVar 0)) (([("_law_step", 1)] : List (Str × Nat)).map (·.2)) (tgN 1) mtYes (mCall 1 f__law_line_of (maCons (mVar 1) maNil))))
def f__law_lines_of := mDefN 2 1 m__law_lines_of
theorem b__law_lines_of {fa : Addr} {cdv : Value} (fx : Fx w K mg P) (F__law_line_of : FdC Pg w K mg base 1 "_law_line_of" (spM P 1 f__law_line_of)) : Bd Pg w K mg base N__law_lines_of "_law_lines_of" (C8.fnScope s__law_lines_of) fa cdv 1 (C8.fnBody s__law_lines_of) P m__law_lines_of := fun A outer s H E F c tk ht hp =>
  (ss_one (s_retN (n_lc [("_law_step", 1)] rfl nd__law_lines_of tk ((i_seq fx.hK (ev 0))) (blkOk_by (show blkC N__law_lines_of (C8.fnScope s__law_lines_of) _ _ = true from by decide +kernel)) (fun _ _ _ _ _ _ tk1 => (g_name 1 nd__law_lines_of (by first | exact .inl rfl | exact .inr rfl))) (fun _ _ _ _ _ _ tk1 => ts_nil) (fun _ _ _ _ _ _ tk1 => (e_call (ct_blk c tk1) F__law_line_of (by decide) rfl (a_cons (ev 1) a_nil))))))
/-! ### _law_modified_lines -/
abbrev N__law_modified_lines : List Str := ["_law_rng", "_law_pages", "_law_at", "_law_mode"]
abbrev s__law_modified_lines : Stmt := top 37
theorem nd__law_modified_lines : N__law_modified_lines.Nodup := by decide
def m__law_modified_lines : MS := (msSeq (msPar 2 3 (mCall 2 f__law_draw (maCons (mVar 0) (maCons (mCB fLen (maCons (mVar 1) maNil)) maNil))) (mCall 2 f__law_draw (maCons (mVar 0) (maCons (mC (.int 6)) maNil))))
  (msSeq (msIf (mtE (m2 opEq (mVar 3) (mC (.int 0)))) (msRet (m2 opAddL (mSl (mVar 1) moN (moS (mVar 2))) (mSl (mVar 1) (moS (m2 opAddL (mVar 2) (mC (.int 1)))) moN))) msNil)
  (msSeq (msIf (mtE (m2 opEq (mVar 3) (mC (.int 1)))) (msRet (m2 opAddL (m2 opAddL (mSl (mVar 1) moN (moS (mVar 2))) (mSl (mVar 1) (moS (mVar 2)) (moS (m2 opAddL (mVar 2) (mC (.int 1)))))) (mSl (mVar 1) (moS (mVar 2)) moN))) msNil)
  (msSeq (msIf (mtE (m2 opEq (mVar 3) (mC (.int 2)))) (msRet (m2 opAddL (mSl (mVar 1) (moS (mVar 2)) moN) (mSl (mVar 1) moN (moS (mVar 2))))) msNil)
  (msRet (m2 opAddL (m2 opAddL (mSl (mVar 1) moN (moS (mVar 2))) (mN (mLst (maCons (mCall 2 f__law_modified_line (maCons (mVar 0) (maCons (m2 opIx (mVar 1) (mVar 2)) maNil))) maNil)))) (mSl (mVar 1) (moS (m2 opAddL (mVar 2) (mC (.int 1)))) moN)))))))
def f__law_modified_lines := mDef 4 2 m__law_modified_lines
theorem b__law_modified_lines {fa : Addr} {cdv : Value} (fx : Fx w K mg P) (F__law_draw : FdC Pg w K mg base 1 "_law_draw" (spM P 2 f__law_draw)) (F__law_modified_line : FdC Pg w K mg base 2 "_law_modified_line" (spM P 2 f__law_modified_line)) : Bd Pg w K mg base N__law_modified_lines "_law_modified_lines" (C8.fnScope s__law_modified_lines) fa cdv 2 (C8.fnBody s__law_modified_lines) P m__law_modified_lines := fun A outer s H E F c tk ht hp =>
  (ss_cons (s_par 2 3 rfl nd__law_modified_lines rfl rfl (e_call c F__law_draw (by decide) rfl (a_cons (ev 0) (a_cons (x_len fx.hK rfl fx.z_len (w_of (ev 1))) a_nil))) (e_call c F__law_draw (by decide) rfl (a_cons (ev 0) (a_cons e_int a_nil))))
  (ss_cons (s_if (q_eq fx.hK c (w_of (ev 3)) (w_of e_int)) (ss_one (s_ret (x_add fx.hK (w_of (e_sl fx.hK (w_of (ev 1)) o_none (o_some (ev 2)))) (w_of (e_sl fx.hK (w_of (ev 1)) (o_some (x_add fx.hK (w_of (ev 2)) (w_of e_int))) o_none))))) ss_nil)
  (ss_cons (s_if (q_eq fx.hK c (w_of (ev 3)) (w_of e_int)) (ss_one (s_ret (x_add fx.hK (w_of (x_add fx.hK (w_of (e_sl fx.hK (w_of (ev 1)) o_none (o_some (ev 2)))) (w_of (e_sl fx.hK (w_of (ev 1)) (o_some (ev 2)) (o_some (x_add fx.hK (w_of (ev 2)) (w_of e_int))))))) (w_of (e_sl fx.hK (w_of (ev 1)) (o_some (ev 2)) o_none))))) ss_nil)
  (ss_cons (s_if (q_eq fx.hK c (w_of (ev 3)) (w_of e_int)) (ss_one (s_ret (x_add fx.hK (w_of (e_sl fx.hK (w_of (ev 1)) (o_some (ev 2)) o_none)) (w_of (e_sl fx.hK (w_of (ev 1)) o_none (o_some (ev 2))))))) ss_nil)
  (ss_one (s_ret (x_add fx.hK (w_of (x_add fx.hK (w_of (e_sl fx.hK (w_of (ev 1)) o_none (o_some (ev 2)))) (w_of (e_of (n_lst (a_cons (e_call c F__law_modified_line (by decide) rfl (a_cons (ev 0) (a_cons (e_ix fx.hK (w_of (ev 1)) (w_of (ev 2))) a_nil))) a_nil)))))) (w_of (e_sl fx.hK (w_of (ev 1)) (o_some (x_add fx.hK (w_of (ev 2)) (w_of e_int))) o_none)))))))))
/-! ### _law_random_any_row -/
abbrev N__law_random_any_row : List Str := ["_law_rng", "_law_count", "_law_names", "_law_counts_here"]
abbrev s__law_random_any_row : Stmt := top 34
theorem nd__law_random_any_row : N__law_random_any_row.Nodup := by decide
def m__law_random_any_row : MS := (msSeq (msPar 2 3 (mN (mLst (maCons (mC (.str "ann")) (maCons (mC (.str "b")) (maCons (mC (.str "zzzzzzzz")) (maCons (mC (.str "hear")) (maCons (mC (.str "do")) maNil))))))) (mN (mLst (maCons (mC (.int 0)) (maCons (mC (.int 7)) (maCons (mC (.int 10)) (maCons (m2 opPow (mC (.int 10)) (mC (.int 59))) maNil)))))))
  (msSeq (msSet 1 (m2 opIx (mVar 3) (mCall 2 f__law_draw (maCons (mVar 0) (maCons (mC (.int 4)) maNil)))))
  (msSeq (msIf (mtE (m2 opEq (mCall 2 f__law_draw (maCons (mVar 0) (maCons (mC (.int 3)) maNil))) (mC (.int 0)))) (msRet (mTup (maCons (mC (.str "hear")) (maCons (mVar 1) (maCons (m2 opIx (mN (mLst (maCons (mC (.str "a")) (maCons (mC (.str "abcd")) (maCons (mC (.str "do")) (maCons (mC (.str "tell")) maNil)))))) (mCall 2 f__law_draw (maCons (mVar 0) (maCons (mC (.int 4)) maNil)))) maNil))))) msNil)
  (msRet (mTup (maCons (m2 opIx (mN (mLst (maCons (mC (.str "do")) (maCons (mC (.str "tell")) maNil)))) (mCall 2 f__law_draw (maCons (mVar 0) (maCons (mC (.int 2)) maNil)))) (maCons (m2 opIx (mVar 2) (mCall 2 f__law_draw (maCons (mVar 0) (maCons (mC (.int 5)) maNil)))) (maCons (m2 opIx (mVar 2) (mCall 2 f__law_draw (maCons (mVar 0) (maCons (mC (.int 5)) maNil)))) (maCons (mVar 1) maNil)))))))))
def f__law_random_any_row := mDef 4 1 m__law_random_any_row
theorem b__law_random_any_row {fa : Addr} {cdv : Value} (fx : Fx w K mg P) (F__law_draw : FdC Pg w K mg base 1 "_law_draw" (spM P 2 f__law_draw)) : Bd Pg w K mg base N__law_random_any_row "_law_random_any_row" (C8.fnScope s__law_random_any_row) fa cdv 1 (C8.fnBody s__law_random_any_row) P m__law_random_any_row := fun A outer s H E F c tk ht hp =>
  (ss_cons (s_par 2 3 rfl nd__law_random_any_row rfl rfl (e_of (n_lst (a_cons (e_str (by decide +kernel)) (a_cons (e_str (by decide +kernel)) (a_cons (e_str (by decide +kernel)) (a_cons (e_str (by decide +kernel)) (a_cons (e_str (by decide +kernel)) a_nil))))))) (e_of (n_lst (a_cons e_int (a_cons e_int (a_cons e_int (a_cons (x_pow (w_of e_int) (w_of e_int)) a_nil)))))))
  (ss_cons (s_set 1 nd__law_random_any_row (by first | exact .inl rfl | exact .inr rfl) (e_ix fx.hK (w_of (ev 3)) (w_of (e_call c F__law_draw (by decide) rfl (a_cons (ev 0) (a_cons e_int a_nil))))))
  (ss_cons (s_if (q_eq fx.hK c (w_of (e_call c F__law_draw (by decide) rfl (a_cons (ev 0) (a_cons e_int a_nil)))) (w_of e_int)) (ss_one (s_ret (e_tup (a_cons (e_str (by decide +kernel)) (a_cons (ev 1) (a_cons (e_ix fx.hK (w_of (e_of (n_lst (a_cons (e_str (by decide +kernel)) (a_cons (e_str (by decide +kernel)) (a_cons (e_str (by decide +kernel)) (a_cons (e_str (by decide +kernel)) a_nil))))))) (w_of (e_call c F__law_draw (by decide) rfl (a_cons (ev 0) (a_cons e_int a_nil))))) a_nil)))))) ss_nil)
  (ss_one (s_ret (e_tup (a_cons (e_ix fx.hK (w_of (e_of (n_lst (a_cons (e_str (by decide +kernel)) (a_cons (e_str (by decide +kernel)) a_nil))))) (w_of (e_call c F__law_draw (by decide) rfl (a_cons (ev 0) (a_cons e_int a_nil))))) (a_cons (e_ix fx.hK (w_of (ev 2)) (w_of (e_call c F__law_draw (by decide) rfl (a_cons (ev 0) (a_cons e_int a_nil))))) (a_cons (e_ix fx.hK (w_of (ev 2)) (w_of (e_call c F__law_draw (by decide) rfl (a_cons (ev 0) (a_cons e_int a_nil))))) (a_cons (ev 1) a_nil))))))))))
/-! ### read_log -/
abbrev N_read_log : List Str := ["lines", "number", "text"]
abbrev s_read_log : Stmt := top 20
theorem nd_read_log : N_read_log.Nodup := by decide
def m_read_log : MS := (msRet (mCB fTup (maCons (mN (mLc (miEnum (maCons (mVar 0) maNil)) (([("number", 1), ("text", 2)] : List (Str × Nat)).map (·.2)) (tgT 2 (tgCons (tgN 1) (tgCons (tgN 2) tgNil))) mtYes (mCall 2 f_entry_read (maCons (mVar 2) (maCons (mVar 1) maNil))))) maNil)))
def f_read_log := mDef 3 1 m_read_log
theorem b_read_log {fa : Addr} {cdv : Value} (fx : Fx w K mg P) (F_entry_read : FdC Pg w K mg base 4 "entry_read" (spM P 2 f_entry_read)) : Bd Pg w K mg base N_read_log "read_log" (C8.fnScope s_read_log) fa cdv 4 (C8.fnBody s_read_log) P m_read_log := fun A outer s H E F c tk ht hp =>
  (ss_one (s_ret (x_tuple fx.hK rfl fx.z_tuple (w_of (e_of (n_lc [("number", 1), ("text", 2)] rfl nd_read_log tk ((i_enum fx.hK rfl fx.z_enumerate (ev 0))) (blkOk_by (show blkC N_read_log (C8.fnScope s_read_log) _ _ = true from by decide +kernel)) (fun _ _ _ _ _ _ tk1 => (g_tup fx.hK rfl (gs_cons (g_name 1 nd_read_log (by first | exact .inl rfl | exact .inr rfl)) (gs_cons (g_name 2 nd_read_log (by first | exact .inl rfl | exact .inr rfl)) gs_nil)))) (fun _ _ _ _ _ _ tk1 => ts_nil) (fun _ _ _ _ _ _ tk1 => (e_call (ct_blk c tk1) F_entry_read (by decide) rfl (a_cons (ev 2) (a_cons (ev 1) a_nil))))))))))
/-! ### _law_expected_log -/
abbrev N__law_expected_log : List Str := ["_law_pages", "_law_found", "_law_at", "_law_page", "_law_result"]
abbrev s__law_expected_log : Stmt := top 33
theorem nd__law_expected_log : N__law_expected_log.Nodup := by decide
def m__law_expected_log : MS := (msSeq (msNew 1 (mLst maNil))
  (msSeq (msFor (miEnum (maCons (mVar 0) maNil)) (tgT 2 (tgCons (tgN 2) (tgCons (tgN 3) tgNil))) (msSeq (msSet 4 (mCall 2 f__law_expected_line (maCons (mVar 3) (maCons (mVar 2) maNil))))
  (msSeq (msIf (mtE (m2 opEq (m2 opIx (mVar 4) (mC (.int 0))) (mC (.str "NoText")))) (msRet (mVar 4)) msNil)
  (msApp 1 (m2 opIx (mVar 4) (mC (.int 1)))))))
  (msRet (mTup (maCons (mC (.str "returned")) (maCons (mCB fTup (maCons (mVarW 1) maNil)) maNil))))))
def f__law_expected_log := mDef 5 1 m__law_expected_log
theorem b__law_expected_log {fa : Addr} {cdv : Value} (fx : Fx w K mg P) (F__law_expected_line : FdC Pg w K mg base 3 "_law_expected_line" (spM P 2 f__law_expected_line)) : Bd Pg w K mg base N__law_expected_log "_law_expected_log" (C8.fnScope s__law_expected_log) fa cdv 3 (C8.fnBody s__law_expected_log) P m__law_expected_log := fun A outer s H E F c tk ht hp =>
  (ss_cons (s_new 1 nd__law_expected_log (by first | exact .inl rfl | exact .inr rfl) (n_lst a_nil))
  (ss_cons (s_for (vs := [2, 3]) hp rfl (i_enum fx.hK rfl fx.z_enumerate (ev 0)) (g_tup fx.hK rfl (gs_cons (g_name 2 nd__law_expected_log (by first | exact .inl rfl | exact .inr rfl)) (gs_cons (g_name 3 nd__law_expected_log (by first | exact .inl rfl | exact .inr rfl)) gs_nil))) (fun _ => (ss_cons (s_set 4 nd__law_expected_log (by first | exact .inl rfl | exact .inr rfl) (e_call c F__law_expected_line (by decide) rfl (a_cons (ev 3) (a_cons (ev 2) a_nil))))
  (ss_cons (s_if (q_eq fx.hK c (w_of (e_ix fx.hK (w_of (ev 4)) (w_of e_int))) (w_of (e_str (by decide +kernel)))) (ss_one (s_ret (ev 4))) ss_nil)
  (ss_one (s_app 1 (tv 1) (e_ix fx.hK (w_of (ev 4)) (w_of e_int))))))))
  (ss_one (s_ret (e_tup (a_cons (e_str (by decide +kernel)) (a_cons (x_tuple fx.hK rfl fx.z_tuple (evw 1)) a_nil)))))))
/-! ### law -/
abbrev N_law : List Str := ["_law_script", "_law_rng", "_law_steps", "_law_pages", "_law_page", "_law_result", "_law_k", "_law_log_here", "_law_expected", "_law_some", "_law_saved", "_law_lap"]
abbrev s_law : Stmt := top 39
theorem nd_law : N_law.Nodup := by decide
def m_law : MS := (msSeq (msBox 1 (mCallN 1 f__law_random_source (maCons (mVar 0) maNil)))
  (msSeq (msSet 2 (m2 opAddL (mCall 0 f__law_fixed_rows maNil) (mN (mLc (miRange (maCons (mC (.int 14)) maNil)) (([("_law_lap", 11)] : List (Str × Nat)).map (·.2)) (tgN 11) mtYes (mCall 1 f__law_random_any_row (maCons (mVar 1) maNil))))))
  (msSeq (msIf (mtNot (mtE (mCall 2 f__law_check_rows (maCons (mVar 1) (maCons (mVar 2) maNil))))) (msRet (mC (.bl false))) msNil)
  (msSeq (msSet 3 (mN (mLst (maCons (mC (.str "")) (maCons (mC (.str " ")) (maCons (mC (.str "hear")) (maCons (mC (.str "hear 0")) (maCons (mC (.str "hear a 0")) (maCons (mC (.str "do ann dig")) (maCons (mC (.str "do ann dig 0 0")) (maCons (m2 opAddL (mC (.str "tell dig bob ")) (m2 opMulS (mC (.str "9")) (mC (.int 61)))) (maCons (mC (.str "undo")) maNil))))))))))))
  (msSeq (msSet 3 (m2 opAddL (mVar 3) (mN (mLst (maCons (mC (.str "hear 0 a\n")) (maCons (mC (.str "do ann dig 0\n")) (maCons (mC (.str "\nhear 0 a")) (maCons (mC (.str "hear 0 a\nhear 1 b")) (maCons (mC (.str "hear 1_0 a")) (maCons (mC (.str "hear +7 a")) maNil))))))))))
  (msSeq (msSet 3 (m2 opAddL (mVar 3) (mN (mLst (maCons (mC (.str "hear 7\n a")) (maCons (mC (.str "do ann\n dig 0")) (maCons (mC (.str "tell dig bob 1_0")) (maCons (mC (.str "tell dig\n bob 0")) (maCons (mC (.str "do ann dig +1")) maNil)))))))))
  (msSeq (msFor (miSeq (m2 opAddL (mVar 3) (mN (mLst (maCons (mC (.str "hear 00 a")) (maCons (mC (.str "Hear 0 a")) (maCons (mC (.str " hear 0 a")) (maCons (mC (.str "hear 0 abcde")) (maCons (mC (.str "hear 0  a")) (maCons (mC (.str "do ann abcdefghi 0")) maNil)))))))))) (tgN 4) (msIf (mtE (m2 opNe (mCB fRepr (maCons (mOut "returned" "NoText" 0 selW (mCall 1 f_read_row (maCons (mVar 4) maNil))) maNil)) (mCB fRepr (maCons (mCall 2 f__law_expected_line (maCons (mVar 4) (maCons (mC (.int 0)) maNil))) maNil)))) (msRet (mC (.bl false))) msNil))
  (msSeq (msPar 7 8 (mCB fTup (maCons (mVar 2) maNil)) (mN (mCallN 1 f__law_lines_of (maCons (mVar 2) maNil))))
  (msSeq (msNew 5 (mCallN 1 f_log_lines (maCons (mVar 7) maNil)))
  (msSeq (msIf (mtOr (mtE (m2 opNe (mVarW 5) (mVar 8))) (mtOr (mtE (m2 opNe (mN (mCallKN 1 (fun _ es => es) 0 1 f_log_lines maNil (maCons (mVar 7) maNil))) (mVar 8))) (mtE (m2 opNe (mCB fRepr (maCons (mCall 1 f_read_log (maCons (mVar 8) maNil)) maNil)) (mCB fRepr (maCons (mVar 7) maNil)))))) (msRet (mC (.bl false))) msNil)
  (msSeq (msApp 5 (mC (.str "hear 0 a")))
  (msSeq (msSetIx 5 (mC (.int 0)) (mC (.str "")))
  (msSeq (msIf (mtE (m2 opNe (mN (mCallN 1 f_log_lines (maCons (mVar 7) maNil))) (mVar 8))) (msRet (mC (.bl false))) msNil)
  (msSeq (msFor (miRange (maCons (mC (.int 14)) maNil)) (tgN 6) (msSeq (msSet 9 (mCall 2 f__law_modified_lines (maCons (mVar 1) (maCons (mVar 8) maNil))))
  (msSeq (msSet 9 (mIf (mtOr (mtE (m2 opEq (m2 opMod (mVar 6) (mC (.int 2))) (mC (.int 0)))) (mtE (m2 opEq (mVar 9) (mN (mLst maNil))))) (mVar 9) (mCall 2 f__law_modified_lines (maCons (mVar 1) (maCons (mVar 9) maNil)))))
  (msSeq (msSet 10 (mN (mCN fList (maCons (mVar 9) maNil))))
  (msIf (mtOr (mtE (m2 opNe (mCB fRepr (maCons (mOut "returned" "NoText" 0 selW (mCall 1 f_read_log (maCons (mVar 9) maNil))) maNil)) (mCB fRepr (maCons (mCall 1 f__law_expected_log (maCons (mVar 9) maNil)) maNil)))) (mtE (m2 opNe (mVar 9) (mVar 10)))) (msRet (mC (.bl false))) msNil)))))
  (msRet (mAnd (m2 opEq (mOut "returned" "NoText" 0 selW (mCallK 1 (fun _ es => es) 0 1 f_read_log maNil (maCons (mN (mLst maNil)) maNil))) (mTup (maCons (mC (.str "returned")) (maCons (mTup maNil) maNil)))) (m2 opEq (mN (mCallN 1 f_log_lines (maCons (mTup maNil) maNil))) (mN (mLst maNil)))))))))))))))))))
def f_law := mDef 12 1 m_law
theorem b_law {fa : Addr} {cdv : Value} (lm : Lm mg base P cdv (("law" : Str) ++ ".<locals>.")) (fx : Fx w K mg P) (F__law_random_source : FdC Pg w K mg base 1 "_law_random_source" (spN P 1 f__law_random_source)) (F__law_fixed_rows : FdC Pg w K mg base 1 "_law_fixed_rows" (spM P 0 f__law_fixed_rows)) (F__law_random_any_row : FdC Pg w K mg base 2 "_law_random_any_row" (spM P 1 f__law_random_any_row)) (F__law_check_rows : FdC Pg w K mg base 8 "_law_check_rows" (spM P 2 f__law_check_rows)) (F_read_row : FdC Pg w K mg base 5 "read_row" (spM P 1 f_read_row)) (F__law_expected_line : FdC Pg w K mg base 3 "_law_expected_line" (spM P 2 f__law_expected_line)) (F__law_lines_of : FdC Pg w K mg base 2 "_law_lines_of" (spN P 1 f__law_lines_of)) (F_log_lines : FdC Pg w K mg base 2 "log_lines" (spN P 1 f_log_lines)) (F_read_log : FdC Pg w K mg base 5 "read_log" (spM P 1 f_read_log)) (F__law_modified_lines : FdC Pg w K mg base 3 "_law_modified_lines" (spM P 2 f__law_modified_lines)) (F__law_expected_log : FdC Pg w K mg base 4 "_law_expected_log" (spM P 1 f__law_expected_log)) (K_read_row : FkC Pg w K mg base 5 "read_row" (spM P 1 f_read_row) 0 ["text"] (fun _ es => es)) (K_log_lines : FkC Pg w K mg base 2 "log_lines" (spN P 1 f_log_lines) 0 ["log"] (fun _ es => es)) (K_read_log : FkC Pg w K mg base 5 "read_log" (spM P 1 f_read_log) 0 ["lines"] (fun _ es => es)) : Bd Pg w K mg base N_law "law" (C8.fnScope s_law) fa cdv 10 (C8.fnBody s_law) P m_law := fun A outer s H E F c tk ht hp =>
  (ss_cons (s_box 1 nd_law (by first | exact .inl rfl | exact .inr rfl) (n_call c F__law_random_source (by decide) rfl (a_cons (ev 0) a_nil)))
  (ss_cons (s_set 2 nd_law (by first | exact .inl rfl | exact .inr rfl) (x_add fx.hK (w_of (e_call0 c F__law_fixed_rows (by decide) rfl)) (w_of (e_of (n_lc [("_law_lap", 11)] rfl nd_law tk ((i_range (st := true) rfl fx.z_range (aw_cons (w_of e_int) aw_nil))) (blkOk_by (show blkC N_law (C8.fnScope s_law) _ _ = true from by decide +kernel)) (fun _ _ _ _ _ _ tk1 => (g_name 11 nd_law (by first | exact .inl rfl | exact .inr rfl))) (fun _ _ _ _ _ _ tk1 => ts_nil) (fun _ _ _ _ _ _ tk1 => (e_call (ct_blk c tk1) F__law_random_any_row (by decide) rfl (a_cons (ev 1) a_nil))))))))
  (ss_cons (s_if (t_not (t_val (e_call c F__law_check_rows (by decide) rfl (a_cons (ev 1) (a_cons (ev 2) a_nil))))) (ss_one (s_ret e_bl)) ss_nil)
  (ss_cons (s_set 3 nd_law (by first | exact .inl rfl | exact .inr rfl) (e_of (n_lst (a_cons (e_str (by decide +kernel)) (a_cons (e_str (by decide +kernel)) (a_cons (e_str (by decide +kernel)) (a_cons (e_str (by decide +kernel)) (a_cons (e_str (by decide +kernel)) (a_cons (e_str (by decide +kernel)) (a_cons (e_str (by decide +kernel)) (a_cons (x_add fx.hK (w_of (e_str (by decide +kernel))) (w_of (x_mul (w_of (e_str (by decide +kernel))) (w_of e_int)))) (a_cons (e_str (by decide +kernel)) a_nil))))))))))))
  (ss_cons (s_set 3 nd_law (by first | exact .inl rfl | exact .inr rfl) (x_add fx.hK (w_of (ev 3)) (w_of (e_of (n_lst (a_cons (e_str (by decide +kernel)) (a_cons (e_str (by decide +kernel)) (a_cons (e_str (by decide +kernel)) (a_cons (e_str (by decide +kernel)) (a_cons (e_str (by decide +kernel)) (a_cons (e_str (by decide +kernel)) a_nil)))))))))))
  (ss_cons (s_set 3 nd_law (by first | exact .inl rfl | exact .inr rfl) (x_add fx.hK (w_of (ev 3)) (w_of (e_of (n_lst (a_cons (e_str (by decide +kernel)) (a_cons (e_str (by decide +kernel)) (a_cons (e_str (by decide +kernel)) (a_cons (e_str (by decide +kernel)) (a_cons (e_str (by decide +kernel)) a_nil))))))))))
  (ss_cons (s_for (vs := [4]) hp rfl (i_seq fx.hK (x_add fx.hK (w_of (ev 3)) (w_of (e_of (n_lst (a_cons (e_str (by decide +kernel)) (a_cons (e_str (by decide +kernel)) (a_cons (e_str (by decide +kernel)) (a_cons (e_str (by decide +kernel)) (a_cons (e_str (by decide +kernel)) (a_cons (e_str (by decide +kernel)) a_nil))))))))))) (g_name 4 nd_law (by first | exact .inl rfl | exact .inr rfl)) (fun _ => (ss_one (s_if (q_ne fx.hK c (w_of (x_repr fx.hK c rfl fx.z_repr (w_of (x_out fx lm c (fun A outer s H E f c2 hr hg => (have c1 := ct_lam hr hg; (e_call c1 F_read_row (by decide) rfl (a_cons (ev 4) a_nil)))) (hL := (by decide +kernel : LamX.lamSB (C8.fnScope s_law) _ = true)))))) (w_of (x_repr fx.hK c rfl fx.z_repr (w_of (e_call c F__law_expected_line (by decide) rfl (a_cons (ev 4) (a_cons e_int a_nil))))))) (ss_one (s_ret e_bl)) ss_nil))))
  (ss_cons (s_par 7 8 rfl nd_law rfl rfl (x_tuple fx.hK rfl fx.z_tuple (w_of (ev 2))) (e_of (n_call c F__law_lines_of (by decide) rfl (a_cons (ev 2) a_nil))))
  (ss_cons (s_new 5 nd_law (by first | exact .inl rfl | exact .inr rfl) (n_call c F_log_lines (by decide) rfl (a_cons (ev 7) a_nil)))
  (ss_cons (s_if (PW.pt (w_or (q_ne fx.hK c (evw 5) (w_of (ev 8))) (w_or (q_ne fx.hK c (w_of (e_of (n_callK0 (ks := ["log"]) (gV := fun _ es => es) (gD := fun _ es => es) c K_log_lines (fun _ h => h) (by decide) rfl (k_cons (ev 7) k_nil)))) (w_of (ev 8))) (w_or1 (q_ne fx.hK c (w_of (x_repr fx.hK c rfl fx.z_repr (w_of (e_call c F_read_log (by decide) rfl (a_cons (ev 8) a_nil))))) (w_of (x_repr fx.hK c rfl fx.z_repr (w_of (ev 7))))))))) (ss_one (s_ret e_bl)) ss_nil)
  (ss_cons (s_app 5 (tv 5) (e_str (by decide +kernel)))
  (ss_cons (s_setIx 5 (tv 5) e_int (e_str (by decide +kernel)))
  (ss_cons (s_if (q_ne fx.hK c (w_of (e_of (n_call c F_log_lines (by decide) rfl (a_cons (ev 7) a_nil)))) (w_of (ev 8))) (ss_one (s_ret e_bl)) ss_nil)
  (ss_cons (s_for (vs := [6]) hp rfl (i_range (st := true) rfl fx.z_range (aw_cons (w_of e_int) aw_nil)) (g_name 6 nd_law (by first | exact .inl rfl | exact .inr rfl)) (fun _ => (ss_cons (s_set 9 nd_law (by first | exact .inl rfl | exact .inr rfl) (e_call c F__law_modified_lines (by decide) rfl (a_cons (ev 1) (a_cons (ev 8) a_nil))))
  (ss_cons (s_set 9 nd_law (by first | exact .inl rfl | exact .inr rfl) (e_if (PW.pt (w_or (q_eq fx.hK c (w_of (x_mod (w_of (ev 6)) (w_of e_int))) (w_of e_int)) (w_or1 (q_eq fx.hK c (w_of (ev 9)) (w_of (e_of (n_lst a_nil))))))) (ev 9) (e_call c F__law_modified_lines (by decide) rfl (a_cons (ev 1) (a_cons (ev 9) a_nil)))))
  (ss_cons (s_set 10 nd_law (by first | exact .inl rfl | exact .inr rfl) (e_of (x_list fx.hK rfl fx.z_list (w_of (ev 9)))))
  (ss_one (s_if (PW.pt (w_or (q_ne fx.hK c (w_of (x_repr fx.hK c rfl fx.z_repr (w_of (x_out fx lm c (fun A outer s H E f c2 hr hg => (have c1 := ct_lam hr hg; (e_call c1 F_read_log (by decide) rfl (a_cons (ev 9) a_nil)))) (hL := (by decide +kernel : LamX.lamSB (C8.fnScope s_law) _ = true)))))) (w_of (x_repr fx.hK c rfl fx.z_repr (w_of (e_call c F__law_expected_log (by decide) rfl (a_cons (ev 9) a_nil)))))) (w_or1 (q_ne fx.hK c (w_of (ev 9)) (w_of (ev 10)))))) (ss_one (s_ret e_bl)) ss_nil)))))))
  (ss_one (s_ret (e_and (x_eq fx.hK c (w_of (x_out fx lm c (fun A outer s H E f c2 hr hg => (have c1 := ct_lam hr hg; (e_callK0 (ks := ["lines"]) (gV := fun _ es => es) (gD := fun _ es => es) c1 K_read_log (fun _ h => h) (by decide) rfl (k_cons (e_of (n_lst a_nil)) k_nil)))) (hL := (by decide +kernel : LamX.lamSB (C8.fnScope s_law) _ = true)))) (w_of (e_tup (a_cons (e_str (by decide +kernel)) (a_cons (e_tup a_nil) a_nil))))) (e_one (x_eq fx.hK c (w_of (e_of (n_call c F_log_lines (by decide) rfl (a_cons (e_tup a_nil) a_nil)))) (w_of (e_of (n_lst a_nil))))))))))))))))))))))
-- levels: {"_law_random_source": 1, "row_line": 1, "log_lines": 2, "_law_fixed_rows": 1, "_law_line_of": 1, "_law_draw": 1, "_law_modified_line": 2, "number_in": 1, "is_lettered": 1, "is_word": 2, "word_in": 3, "is_name": 2, "name_in": 3, "entry_read": 4, "read_row": 5, "_law_is_lowercase": 1, "_law_parsed_part": 2, "_law_expected_line": 3, "_law_check_rows": 8, "_law_lines_of": 2, "_law_modified_lines": 3, "_law_random_any_row": 2, "read_log": 5, "_law_expected_log": 4, "law": 11}
-- kinds: {"_law_random_source": "N", "row_line": "V", "log_lines": "N", "_law_fixed_rows": "V", "_law_line_of": "V", "_law_draw": "V", "_law_modified_line": "V", "number_in": "V", "is_lettered": "V", "is_word": "V", "word_in": "V", "is_name": "V", "name_in": "V", "entry_read": "V", "read_row": "V", "_law_is_lowercase": "V", "_law_parsed_part": "V", "_law_expected_line": "V", "_law_check_rows": "V", "_law_lines_of": "N", "_law_modified_lines": "V", "_law_random_any_row": "V", "read_log": "V", "_law_expected_log": "V", "law": "V"}
-- built-in names: ['all', 'enumerate', 'int', 'isinstance', 'len', 'list', 'min', 'range', 'repr', 'str', 'tuple', 'zip']
-- constants: ['FIGURES', 'LETTERS', 'LONGEST_NAME', 'LONGEST_WORD', 'MOST_FIGURES']
-- keywords: {'row_line': 'entry', 'read_row': 'text', 'log_lines': 'log', 'read_log': 'lines'}
end
end K85

set_option maxRecDepth 100000
set_option maxHeartbeats 4000000
namespace K85
open PySem PySem.Spec PyProof.Rows L2 UH PySem.NumText

/-! ### the mirrors, step by step -/
/-- a comprehension that raises nothing -/
theorem lc_ok {vs : List Nat} {t : Tgt} {c : MT} {m : ME} {env : En} {s : Bxs} {p : D → Bool} {f : D → D} : ∀ {xs : List D}, (∀ x ∈ xs, ∃ env', t x (wipeE env vs) = some env' ∧ c env' s = .ok (p x) s ∧ (p x = true → m env' s = .ok (f x) s)) → lcLoop vs t c m env xs s = .ok ((xs.filter p).map f) s
  | [], _ => rfl
  | x :: r, h => by
    obtain ⟨env', e1, e2, e3⟩ := h x List.mem_cons_self
    have ih := lc_ok (vs := vs) (t := t) (c := c) (m := m) (env := env) (s := s) (p := p) (f := f) (xs := r) fun y hy => h y (List.mem_cons_of_mem _ hy)
    unfold lcLoop
    rw [e1]
    simp only [e2, R.bind_ok]
    cases hp : p x with
    | true => simp only [if_true, e3 hp, R.bind_ok, ih, List.filter_cons, hp, List.map_cons]
    | false => simp only [Bool.false_eq_true, if_false, ih, List.filter_cons, hp]
def inL (z : String) (c : Nat) : Bool := inStr ⟨#[c]⟩ z
theorem asBs_map : ∀ bs : List Bool, asBs (bs.map D.bl) = some bs
  | [] => rfl
  | b :: r => by show (asBs (r.map D.bl)).map (b :: ·) = _; rw [asBs_map r] <;> rfl
theorem isi_str (x : Str) : fIsi "str" (.str x) = some (.bl true) := rfl
theorem signs (p : Nat → Bool) (f : D → D → Option D) (z : D) (i : Nat) (x : Str) (env : En) (s : Bxs) (hi : i < env.length) (hf : ∀ c, f (signD c) z = some (.bl (p c))) :
    lcLoop [i] (tgN i) mtYes (m2 f (mVar i) (mC z)) env (x.cps.toList.map signD) s = .ok ((x.cps.toList.map p).map D.bl) s := by
  rw [lc_ok (p := fun _ => true) (f := fun d => (f d z).getD .non)]
  · rw [List.filter_eq_self.mpr (fun _ _ => rfl), List.map_map, List.map_map]
    congr 1
    refine List.map_congr_left fun c _ => ?_
    show (f (signD c) z).getD .non = D.bl (p c)
    rw [hf] <;> rfl
  · intro d hd
    obtain ⟨c, _, rfl⟩ := List.mem_map.mp hd
    refine ⟨_, rfl, rfl, fun _ => ?_⟩
    have e : ((wipeE env [i]).set i (.val (signD c)))[i]? = some (.val (signD c)) := List.getElem?_set_self (by rw [wipe_len]; exact hi)
    simp only [mDef, mDefN, env0, List.map_cons, List.map_nil, List.replicate, List.cons_append, List.nil_append, Nat.reduceSub, msSeq, msIf, msRet, msNil, msSet, msRetN, mVar, mVarW, mC, m1, m2, m2S, m2N, mtE, mtNot, mtOr, mtAnd, mAnd, mOr, mNot, mIf, mN, mTup, mLst, mCB, mCN, maCons, maNil, mCall, mCallN, arity, mSl, moN, moS, mLc, miSeq, R.bind_ok, R.bind_exc, R.bind_bad, R.ofO_some, R.ofO_none, List.getElem?_cons_zero, List.getElem?_cons_succ, List.set_cons_zero, List.set_cons_succ, List.length_cons, List.length_nil, Nat.reduceAdd, Nat.zero_add, if_true, reduceIte, asB, asI, Bool.true_eq_false, Bool.false_eq_true, if_false, Bool.not_true, Bool.not_false, Option.bind_some, Option.map_some, Nat.reduceLeDiff, Nat.zero_le, e, hf]
    rfl
theorem in_sign (z : String) (c : Nat) : inD false (signD c) (.str z) = some (.bl (inL z c)) := rfl
theorem nin_sign (z : String) (c : Nat) : inD true (signD c) (.str z) = some (.bl (!inL z c)) := rfl
theorem lettered (x : Str) (n : Int) (s : Bxs) : f_is_lettered [.str x, .int n] s = .ok (.bl (decide (1 ≤ (x.length : Int) ∧ (x.length : Int) ≤ n) && x.cps.toList.all (inL "abcdefghijklmnopqrstuvwxyz"))) s := by
  unfold f_is_lettered m_is_lettered
  simp only [mDef, mDefN, env0, List.map_cons, List.map_nil, List.replicate, List.cons_append, List.nil_append, Nat.reduceSub, msSeq, msIf, msRet, msNil, msSet, msRetN, mVar, mVarW, mC, m1, m2, m2S, m2N, mtE, mtNot, mtOr, mtAnd, mAnd, mOr, mNot, mIf, mN, mTup, mLst, mCB, mCN, maCons, maNil, mCall, mCallN, arity, mSl, moN, moS, mLc, miSeq, R.bind_ok, R.bind_exc, R.bind_bad, R.ofO_some, R.ofO_none, List.getElem?_cons_zero, List.getElem?_cons_succ, List.set_cons_zero, List.set_cons_succ, List.length_cons, List.length_nil, Nat.reduceAdd, Nat.zero_add, if_true, reduceIte, asB, asI, Bool.true_eq_false, Bool.false_eq_true, if_false, Bool.not_true, Bool.not_false, Option.bind_some, Option.map_some, Nat.reduceLeDiff, Nat.zero_le, isi_str, mChain, fLen, opLe]
  by_cases h1 : 1 ≤ (x.length : Int)
  · by_cases h2 : (x.length : Int) ≤ n
    · simp only [mDef, mDefN, env0, List.map_cons, List.map_nil, List.replicate, List.cons_append, List.nil_append, Nat.reduceSub, msSeq, msIf, msRet, msNil, msSet, msRetN, mVar, mVarW, mC, m1, m2, m2S, m2N, mtE, mtNot, mtOr, mtAnd, mAnd, mOr, mNot, mIf, mN, mTup, mLst, mCB, mCN, maCons, maNil, mCall, mCallN, arity, mSl, moN, moS, mLc, miSeq, R.bind_ok, R.bind_exc, R.bind_bad, R.ofO_some, R.ofO_none, List.getElem?_cons_zero, List.getElem?_cons_succ, List.set_cons_zero, List.set_cons_succ, List.length_cons, List.length_nil, Nat.reduceAdd, Nat.zero_add, if_true, reduceIte, asB, asI, Bool.true_eq_false, Bool.false_eq_true, if_false, Bool.not_true, Bool.not_false, Option.bind_some, Option.map_some, Nat.reduceLeDiff, Nat.zero_le, h1, h2, decide_true, seqD]
      rw [signs (inL "abcdefghijklmnopqrstuvwxyz") (inD false) _ 2 x _ s (by show 2 < 3; decide) fun c => in_sign _ c]
      simp only [mDef, mDefN, env0, List.map_cons, List.map_nil, List.replicate, List.cons_append, List.nil_append, Nat.reduceSub, msSeq, msIf, msRet, msNil, msSet, msRetN, mVar, mVarW, mC, m1, m2, m2S, m2N, mtE, mtNot, mtOr, mtAnd, mAnd, mOr, mNot, mIf, mN, mTup, mLst, mCB, mCN, maCons, maNil, mCall, mCallN, arity, mSl, moN, moS, mLc, miSeq, R.bind_ok, R.bind_exc, R.bind_bad, R.ofO_some, R.ofO_none, List.getElem?_cons_zero, List.getElem?_cons_succ, List.set_cons_zero, List.set_cons_succ, List.length_cons, List.length_nil, Nat.reduceAdd, Nat.zero_add, if_true, reduceIte, asB, asI, Bool.true_eq_false, Bool.false_eq_true, if_false, Bool.not_true, Bool.not_false, Option.bind_some, Option.map_some, Nat.reduceLeDiff, Nat.zero_le, fAll, asBs_map]
      simp [h1, h2, List.all_map]
    · simp only [mDef, mDefN, env0, List.map_cons, List.map_nil, List.replicate, List.cons_append, List.nil_append, Nat.reduceSub, msSeq, msIf, msRet, msNil, msSet, msRetN, mVar, mVarW, mC, m1, m2, m2S, m2N, mtE, mtNot, mtOr, mtAnd, mAnd, mOr, mNot, mIf, mN, mTup, mLst, mCB, mCN, maCons, maNil, mCall, mCallN, arity, mSl, moN, moS, mLc, miSeq, R.bind_ok, R.bind_exc, R.bind_bad, R.ofO_some, R.ofO_none, List.getElem?_cons_zero, List.getElem?_cons_succ, List.set_cons_zero, List.set_cons_succ, List.length_cons, List.length_nil, Nat.reduceAdd, Nat.zero_add, if_true, reduceIte, asB, asI, Bool.true_eq_false, Bool.false_eq_true, if_false, Bool.not_true, Bool.not_false, Option.bind_some, Option.map_some, Nat.reduceLeDiff, Nat.zero_le, h1, h2, decide_true, decide_false]
      simp [h1, h2]
  · simp only [mDef, mDefN, env0, List.map_cons, List.map_nil, List.replicate, List.cons_append, List.nil_append, Nat.reduceSub, msSeq, msIf, msRet, msNil, msSet, msRetN, mVar, mVarW, mC, m1, m2, m2S, m2N, mtE, mtNot, mtOr, mtAnd, mAnd, mOr, mNot, mIf, mN, mTup, mLst, mCB, mCN, maCons, maNil, mCall, mCallN, arity, mSl, moN, moS, mLc, miSeq, R.bind_ok, R.bind_exc, R.bind_bad, R.ofO_some, R.ofO_none, List.getElem?_cons_zero, List.getElem?_cons_succ, List.set_cons_zero, List.set_cons_succ, List.length_cons, List.length_nil, Nat.reduceAdd, Nat.zero_add, if_true, reduceIte, asB, asI, Bool.true_eq_false, Bool.false_eq_true, if_false, Bool.not_true, Bool.not_false, Option.bind_some, Option.map_some, Nat.reduceLeDiff, Nat.zero_le, h1, decide_false]
    simp [h1]

/-! ### the parts of a line -/
theorem signs_if (q : Nat → Bool) (g : D → D → Option D) (z : D) (i : Nat) (x : Str) (env : En) (s : Bxs) (hi : i < env.length) (hf : ∀ c, g (signD c) z = some (.bl (q c))) :
    lcLoop [i] (tgN i) (mtE (m2 g (mVar i) (mC z))) (mVar i) env (x.cps.toList.map signD) s = .ok ((x.cps.toList.filter q).map signD) s := by
  rw [lc_ok (p := fun d => ((g d z).bind asB).getD false) (f := id)]
  · rw [List.filter_map, List.map_map]
    congr 1
    have e : ((fun d => ((g d z).bind asB).getD false) ∘ signD) = q := funext fun c => by
      show ((g (signD c) z).bind asB).getD false = q c
      rw [hf] <;> rfl
    rw [e]
    rfl
  · intro d hd
    obtain ⟨c, _, rfl⟩ := List.mem_map.mp hd
    have e : ((wipeE env [i]).set i (.val (signD c)))[i]? = some (.val (signD c)) := List.getElem?_set_self (by rw [wipe_len]; exact hi)
    refine ⟨_, rfl, ?_, fun _ => ?_⟩
    · simp only [mDef, mDefN, env0, List.map_cons, List.map_nil, List.replicate, List.cons_append, List.nil_append, Nat.reduceSub, msSeq, msIf, msRet, msNil, msSet, msRetN, mVar, mVarW, mC, m1, m2, m2S, m2N, mtE, mtNot, mtOr, mtAnd, mAnd, mOr, mNot, mIf, mN, mTup, mLst, mCB, mCN, maCons, maNil, mCall, mCallN, arity, mSl, moN, moS, mLc, miSeq, R.bind_ok, R.bind_exc, R.bind_bad, R.ofO_some, R.ofO_none, List.getElem?_cons_zero, List.getElem?_cons_succ, List.set_cons_zero, List.set_cons_succ, List.length_cons, List.length_nil, Nat.reduceAdd, Nat.zero_add, if_true, reduceIte, asB, asI, Bool.true_eq_false, Bool.false_eq_true, if_false, Bool.not_true, Bool.not_false, Option.bind_some, Option.map_some, Nat.reduceLeDiff, Nat.zero_le, e, hf]
      rfl
    · simp only [mDef, mDefN, env0, List.map_cons, List.map_nil, List.replicate, List.cons_append, List.nil_append, Nat.reduceSub, msSeq, msIf, msRet, msNil, msSet, msRetN, mVar, mVarW, mC, m1, m2, m2S, m2N, mtE, mtNot, mtOr, mtAnd, mAnd, mOr, mNot, mIf, mN, mTup, mLst, mCB, mCN, maCons, maNil, mCall, mCallN, arity, mSl, moN, moS, mLc, miSeq, R.bind_ok, R.bind_exc, R.bind_bad, R.ofO_some, R.ofO_none, List.getElem?_cons_zero, List.getElem?_cons_succ, List.set_cons_zero, List.set_cons_succ, List.length_cons, List.length_nil, Nat.reduceAdd, Nat.zero_add, if_true, reduceIte, asB, asI, Bool.true_eq_false, Bool.false_eq_true, if_false, Bool.not_true, Bool.not_false, Option.bind_some, Option.map_some, Nat.reduceLeDiff, Nat.zero_le, e, id]
theorem pls_signs : ∀ l : List Nat, D.pls (l.map signD) = true
  | [] => rfl
  | c :: r => by show (D.pl (signD c) && D.pls (r.map signD)) = true; rw [pls_signs r] <;> rfl
theorem deep_signs : ∀ l : List Nat, PyData.depthAll (D.toPs (l.map signD)) ≤ 1
  | [] => by decide
  | c :: r => by
    have := deep_signs r
    show max (PyData.depth (.str _)) (PyData.depthAll (D.toPs (r.map signD))) ≤ 1
    have e : PyData.depth (.str ⟨#[c]⟩) ≤ 1 := Nat.zero_le _
    omega
theorem ok_signs (l : List Nat) : (D.lst (l.map signD)).ok = true := by
  unfold D.ok
  rw [Bool.and_eq_true]
  refine ⟨pls_signs l, decide_eq_true ?_⟩
  have := deep_signs l
  show PyData.depthAll (D.toPs (l.map signD)) + 1 ≤ 60
  omega
theorem eq_nil (ds : List D) (h : (D.lst ds).ok = true) : opEq (.lst ds) (.lst []) = some (.bl ds.isEmpty) := by
  unfold opEq
  have e : (D.lst []).ok = true := rfl
  rw [h, e]
  cases ds <;> rfl
theorem lowercase (x : Str) (n : Int) (s : Bxs) : f__law_is_lowercase [.str x, .int n] s = .ok (.bl (decide (1 ≤ (x.length : Int) ∧ (x.length : Int) ≤ n) && x.cps.toList.all (inL "abcdefghijklmnopqrstuvwxyz"))) s := by
  unfold f__law_is_lowercase m__law_is_lowercase
  simp only [mDef, mDefN, env0, List.map_cons, List.map_nil, List.replicate, List.cons_append, List.nil_append, Nat.reduceSub, msSeq, msIf, msRet, msNil, msSet, msRetN, mVar, mVarW, mC, m1, m2, m2S, m2N, mtE, mtNot, mtOr, mtAnd, mAnd, mOr, mNot, mIf, mN, mTup, mLst, mCB, mCN, maCons, maNil, mCall, mCallN, arity, mSl, moN, moS, mLc, miSeq, R.bind_ok, R.bind_exc, R.bind_bad, R.ofO_some, R.ofO_none, List.getElem?_cons_zero, List.getElem?_cons_succ, List.set_cons_zero, List.set_cons_succ, List.length_cons, List.length_nil, Nat.reduceAdd, Nat.zero_add, if_true, reduceIte, asB, asI, Bool.true_eq_false, Bool.false_eq_true, if_false, Bool.not_true, Bool.not_false, Option.bind_some, Option.map_some, Nat.reduceLeDiff, Nat.zero_le, mChain, fLen, opLe]
  by_cases h1 : 1 ≤ (x.length : Int)
  · by_cases h2 : (x.length : Int) ≤ n
    · simp only [mDef, mDefN, env0, List.map_cons, List.map_nil, List.replicate, List.cons_append, List.nil_append, Nat.reduceSub, msSeq, msIf, msRet, msNil, msSet, msRetN, mVar, mVarW, mC, m1, m2, m2S, m2N, mtE, mtNot, mtOr, mtAnd, mAnd, mOr, mNot, mIf, mN, mTup, mLst, mCB, mCN, maCons, maNil, mCall, mCallN, arity, mSl, moN, moS, mLc, miSeq, R.bind_ok, R.bind_exc, R.bind_bad, R.ofO_some, R.ofO_none, List.getElem?_cons_zero, List.getElem?_cons_succ, List.set_cons_zero, List.set_cons_succ, List.length_cons, List.length_nil, Nat.reduceAdd, Nat.zero_add, if_true, reduceIte, asB, asI, Bool.true_eq_false, Bool.false_eq_true, if_false, Bool.not_true, Bool.not_false, Option.bind_some, Option.map_some, Nat.reduceLeDiff, Nat.zero_le, h1, h2, decide_true, seqD]
      rw [signs_if (fun c => !inL "abcdefghijklmnopqrstuvwxyz" c) (inD true) _ 2 x _ s (by show 2 < 3; decide) fun c => nin_sign _ c]
      simp only [mDef, mDefN, env0, List.map_cons, List.map_nil, List.replicate, List.cons_append, List.nil_append, Nat.reduceSub, msSeq, msIf, msRet, msNil, msSet, msRetN, mVar, mVarW, mC, m1, m2, m2S, m2N, mtE, mtNot, mtOr, mtAnd, mAnd, mOr, mNot, mIf, mN, mTup, mLst, mCB, mCN, maCons, maNil, mCall, mCallN, arity, mSl, moN, moS, mLc, miSeq, R.bind_ok, R.bind_exc, R.bind_bad, R.ofO_some, R.ofO_none, List.getElem?_cons_zero, List.getElem?_cons_succ, List.set_cons_zero, List.set_cons_succ, List.length_cons, List.length_nil, Nat.reduceAdd, Nat.zero_add, if_true, reduceIte, asB, asI, Bool.true_eq_false, Bool.false_eq_true, if_false, Bool.not_true, Bool.not_false, Option.bind_some, Option.map_some, Nat.reduceLeDiff, Nat.zero_le, eq_nil _ (ok_signs _)]
      have e : (List.map signD (x.cps.toList.filter fun c => !inL "abcdefghijklmnopqrstuvwxyz" c)).isEmpty = x.cps.toList.all (inL "abcdefghijklmnopqrstuvwxyz") := by
        induction x.cps.toList with
        | nil => rfl
        | cons c r ih =>
          cases hc : inL "abcdefghijklmnopqrstuvwxyz" c with
          | true => simp [hc] at ih ⊢; exact ih
          | false => simp [hc]
      rw [e]
      simp [h1, h2]
    · simp only [mDef, mDefN, env0, List.map_cons, List.map_nil, List.replicate, List.cons_append, List.nil_append, Nat.reduceSub, msSeq, msIf, msRet, msNil, msSet, msRetN, mVar, mVarW, mC, m1, m2, m2S, m2N, mtE, mtNot, mtOr, mtAnd, mAnd, mOr, mNot, mIf, mN, mTup, mLst, mCB, mCN, maCons, maNil, mCall, mCallN, arity, mSl, moN, moS, mLc, miSeq, R.bind_ok, R.bind_exc, R.bind_bad, R.ofO_some, R.ofO_none, List.getElem?_cons_zero, List.getElem?_cons_succ, List.set_cons_zero, List.set_cons_succ, List.length_cons, List.length_nil, Nat.reduceAdd, Nat.zero_add, if_true, reduceIte, asB, asI, Bool.true_eq_false, Bool.false_eq_true, if_false, Bool.not_true, Bool.not_false, Option.bind_some, Option.map_some, Nat.reduceLeDiff, Nat.zero_le, h1, h2, decide_true, decide_false]
      simp [h1, h2]
  · simp only [mDef, mDefN, env0, List.map_cons, List.map_nil, List.replicate, List.cons_append, List.nil_append, Nat.reduceSub, msSeq, msIf, msRet, msNil, msSet, msRetN, mVar, mVarW, mC, m1, m2, m2S, m2N, mtE, mtNot, mtOr, mtAnd, mAnd, mOr, mNot, mIf, mN, mTup, mLst, mCB, mCN, maCons, maNil, mCall, mCallN, arity, mSl, moN, moS, mLc, miSeq, R.bind_ok, R.bind_exc, R.bind_bad, R.ofO_some, R.ofO_none, List.getElem?_cons_zero, List.getElem?_cons_succ, List.set_cons_zero, List.set_cons_succ, List.length_cons, List.length_nil, Nat.reduceAdd, Nat.zero_add, if_true, reduceIte, asB, asI, Bool.true_eq_false, Bool.false_eq_true, if_false, Bool.not_true, Bool.not_false, Option.bind_some, Option.map_some, Nat.reduceLeDiff, Nat.zero_le, h1, decide_false]
    simp [h1]

def isNum (x : Str) : Bool := decide (1 ≤ (x.length : Int) ∧ (x.length : Int) ≤ 60) && x.cps.toList.all (inL "0123456789")
def hd (x : Str) : D := match x.cps.toList with
  | c :: _ => signD c
  | [] => .non
def lead (x : Str) : Bool := (D.str x).eqv (.str "0") || !(hd x).eqv (.str "0")
def numR (x : Str) : Option Int := if (isNum x && lead x) = true then PySem.intText? x else none
def optD (f : α → D) : Option α → D
  | some a => f a
  | none => .non
def optL (f : α → D) : Option α → List D
  | some a => [f a]
  | none => []
theorem ix0 {x : Str} {c : Nat} {r : List Nat} (h : x.cps.toList = c :: r) : opIx (.str x) (.int 0) = some (signD c) := by
  show (atI x.cps.toList 0).map _ = _
  rw [h]
  unfold atI ixN
  simp [signD]
theorem inL_digit {c : Nat} (h : inL "0123456789" c = true) : 48 ≤ c ∧ c ≤ 57 := by
  unfold inL inStr at h
  have e := PySem.StrLaws.found_one (Str.ofString "0123456789") c
  have h : (!(Builtin.Str.occurrences (Str.ofString "0123456789") ⟨#[c]⟩ 0 (Str.ofString "0123456789").length 1).isEmpty) = true := h
  rw [e] at h
  have h := of_decide_eq_true h
  have e2 : (Str.ofString "0123456789").cps.toList = [48, 49, 50, 51, 52, 53, 54, 55, 56, 57] := by decide +kernel
  rw [e2] at h
  simp only [List.mem_cons, List.not_mem_nil, or_false] at h
  omega
theorem val_lt : ∀ (l : List Nat) (a : Nat), AllDigits l → l.foldl (fun acc c => acc * 10 + (c - 48)) a < (a + 1) * 10 ^ l.length
  | [], a, _ => by simp
  | c :: r, a, h => by
    have hc := h c List.mem_cons_self
    have ih := val_lt r (a * 10 + (c - 48)) fun d hd => h d (List.mem_cons_of_mem _ hd)
    rw [List.foldl_cons, List.length_cons, Nat.pow_succ]
    refine Nat.lt_of_lt_of_le ih ?_
    have : a * 10 + (c - 48) + 1 ≤ (a + 1) * 10 := by omega
    calc (a * 10 + (c - 48) + 1) * 10 ^ r.length ≤ ((a + 1) * 10) * 10 ^ r.length := Nat.mul_le_mul_right _ this
      _ = (a + 1) * (10 ^ r.length * 10) := by rw [Nat.mul_assoc, Nat.mul_comm 10]
theorem num_some {x : Str} (h : isNum x = true) : ∃ n : Nat, PySem.intText? x = some (n : Int) ∧ n < 10 ^ 60 ∧ x.length ≤ 60 ∧ 1 ≤ x.length := by
  unfold isNum at h
  rw [Bool.and_eq_true] at h
  obtain ⟨h1, h2⟩ := h
  have h1 := of_decide_eq_true h1
  have ad : AllDigits x.cps.toList := fun c hc => inL_digit (List.all_eq_true.mp h2 c hc)
  have hl : x.cps.toList.length = x.length := Array.length_toList
  have ne : x.cps.toList ≠ [] := fun z => by rw [z] at hl; simp at hl; omega
  refine ⟨_, intText_digits ad ne (by omega), ?_, by omega, by omega⟩
  have := val_lt x.cps.toList 0 ad
  have h60 : (10 : Nat) ^ x.cps.toList.length ≤ 10 ^ 60 := Nat.pow_le_pow_right (by decide) (by omega)
  show x.cps.toList.foldl _ 0 < _
  omega
theorem eq_str (x y : Str) : opEq (.str x) (.str y) = some (.bl ((D.str x).eqv (.str y))) := rfl
theorem ne_str (x y : Str) : opNe (.str x) (.str y) = some (.bl (!(D.str x).eqv (.str y))) := rfl
theorem number_in (x : Str) (s : Bxs) : f_number_in [.str x] s = .ok (optD .int (numR x)) s := by
  unfold f_number_in m_number_in
  simp only [mDef, mDefN, env0, List.map_cons, List.map_nil, List.replicate, List.cons_append, List.nil_append, Nat.reduceSub, msSeq, msIf, msRet, msNil, msSet, msRetN, mVar, mVarW, mC, m1, m2, m2S, m2N, mtE, mtNot, mtOr, mtAnd, mAnd, mOr, mNot, mIf, mN, mTup, mLst, mCB, mCN, maCons, maNil, mCall, mCallN, arity, mSl, moN, moS, mLc, miSeq, R.bind_ok, R.bind_exc, R.bind_bad, R.ofO_some, R.ofO_none, List.getElem?_cons_zero, List.getElem?_cons_succ, List.set_cons_zero, List.set_cons_succ, List.length_cons, List.length_nil, Nat.reduceAdd, Nat.zero_add, if_true, reduceIte, asB, asI, Bool.true_eq_false, Bool.false_eq_true, if_false, Bool.not_true, Bool.not_false, Option.bind_some, Option.map_some, Nat.reduceLeDiff, Nat.zero_le, mChain, fLen, opLe]
  have num : isNum x = (decide (1 ≤ (x.length : Int) ∧ (x.length : Int) ≤ 60) && x.cps.toList.all (inL "0123456789")) := rfl
  by_cases h1 : 1 ≤ (x.length : Int)
  · by_cases h2 : (x.length : Int) ≤ 60
    · simp only [mDef, mDefN, env0, List.map_cons, List.map_nil, List.replicate, List.cons_append, List.nil_append, Nat.reduceSub, msSeq, msIf, msRet, msNil, msSet, msRetN, mVar, mVarW, mC, m1, m2, m2S, m2N, mtE, mtNot, mtOr, mtAnd, mAnd, mOr, mNot, mIf, mN, mTup, mLst, mCB, mCN, maCons, maNil, mCall, mCallN, arity, mSl, moN, moS, mLc, miSeq, R.bind_ok, R.bind_exc, R.bind_bad, R.ofO_some, R.ofO_none, List.getElem?_cons_zero, List.getElem?_cons_succ, List.set_cons_zero, List.set_cons_succ, List.length_cons, List.length_nil, Nat.reduceAdd, Nat.zero_add, if_true, reduceIte, asB, asI, Bool.true_eq_false, Bool.false_eq_true, if_false, Bool.not_true, Bool.not_false, Option.bind_some, Option.map_some, Nat.reduceLeDiff, Nat.zero_le, h1, h2, decide_true, seqD]
      rw [signs (inL "0123456789") (inD false) _ 1 x _ s (by show 1 < 2; decide) fun c => in_sign _ c]
      simp only [mDef, mDefN, env0, List.map_cons, List.map_nil, List.replicate, List.cons_append, List.nil_append, Nat.reduceSub, msSeq, msIf, msRet, msNil, msSet, msRetN, mVar, mVarW, mC, m1, m2, m2S, m2N, mtE, mtNot, mtOr, mtAnd, mAnd, mOr, mNot, mIf, mN, mTup, mLst, mCB, mCN, maCons, maNil, mCall, mCallN, arity, mSl, moN, moS, mLc, miSeq, R.bind_ok, R.bind_exc, R.bind_bad, R.ofO_some, R.ofO_none, List.getElem?_cons_zero, List.getElem?_cons_succ, List.set_cons_zero, List.set_cons_succ, List.length_cons, List.length_nil, Nat.reduceAdd, Nat.zero_add, if_true, reduceIte, asB, asI, Bool.true_eq_false, Bool.false_eq_true, if_false, Bool.not_true, Bool.not_false, Option.bind_some, Option.map_some, Nat.reduceLeDiff, Nat.zero_le, fAll, asBs_map]
      have num2 : isNum x = x.cps.toList.all (inL "0123456789") := by rw [num]; simp [h1, h2]
      have e : ((x.cps.toList.map (inL "0123456789")).all id) = isNum x := by rw [num2]; simp [List.all_map]
      rw [e]
      cases hn : isNum x with
      | false => simp only [mDef, mDefN, env0, List.map_cons, List.map_nil, List.replicate, List.cons_append, List.nil_append, Nat.reduceSub, msSeq, msIf, msRet, msNil, msSet, msRetN, mVar, mVarW, mC, m1, m2, m2S, m2N, mtE, mtNot, mtOr, mtAnd, mAnd, mOr, mNot, mIf, mN, mTup, mLst, mCB, mCN, maCons, maNil, mCall, mCallN, arity, mSl, moN, moS, mLc, miSeq, R.bind_ok, R.bind_exc, R.bind_bad, R.ofO_some, R.ofO_none, List.getElem?_cons_zero, List.getElem?_cons_succ, List.set_cons_zero, List.set_cons_succ, List.length_cons, List.length_nil, Nat.reduceAdd, Nat.zero_add, if_true, reduceIte, asB, asI, Bool.true_eq_false, Bool.false_eq_true, if_false, Bool.not_true, Bool.not_false, Option.bind_some, Option.map_some, Nat.reduceLeDiff, Nat.zero_le]; simp [numR, hn, optD]
      | true =>
        obtain ⟨n, hv, _, hl, hl1⟩ := num_some hn
        have l640 : x.length ≤ 640 := by omega
        simp only [mDef, mDefN, env0, List.map_cons, List.map_nil, List.replicate, List.cons_append, List.nil_append, Nat.reduceSub, msSeq, msIf, msRet, msNil, msSet, msRetN, mVar, mVarW, mC, m1, m2, m2S, m2N, mtE, mtNot, mtOr, mtAnd, mAnd, mOr, mNot, mIf, mN, mTup, mLst, mCB, mCN, maCons, maNil, mCall, mCallN, arity, mSl, moN, moS, mLc, miSeq, R.bind_ok, R.bind_exc, R.bind_bad, R.ofO_some, R.ofO_none, List.getElem?_cons_zero, List.getElem?_cons_succ, List.set_cons_zero, List.set_cons_succ, List.length_cons, List.length_nil, Nat.reduceAdd, Nat.zero_add, if_true, reduceIte, asB, asI, Bool.true_eq_false, Bool.false_eq_true, if_false, Bool.not_true, Bool.not_false, Option.bind_some, Option.map_some, Nat.reduceLeDiff, Nat.zero_le, eq_str]
        cases he : (D.str x).eqv (.str "0") with
        | true =>
          simp only [mDef, mDefN, env0, List.map_cons, List.map_nil, List.replicate, List.cons_append, List.nil_append, Nat.reduceSub, msSeq, msIf, msRet, msNil, msSet, msRetN, mVar, mVarW, mC, m1, m2, m2S, m2N, mtE, mtNot, mtOr, mtAnd, mAnd, mOr, mNot, mIf, mN, mTup, mLst, mCB, mCN, maCons, maNil, mCall, mCallN, arity, mSl, moN, moS, mLc, miSeq, R.bind_ok, R.bind_exc, R.bind_bad, R.ofO_some, R.ofO_none, List.getElem?_cons_zero, List.getElem?_cons_succ, List.set_cons_zero, List.set_cons_succ, List.length_cons, List.length_nil, Nat.reduceAdd, Nat.zero_add, if_true, reduceIte, asB, asI, Bool.true_eq_false, Bool.false_eq_true, if_false, Bool.not_true, Bool.not_false, Option.bind_some, Option.map_some, Nat.reduceLeDiff, Nat.zero_le, fInt, l640, hv]
          simp [numR, hn, lead, he, hv, optD]
        | false =>
          cases hx : x.cps.toList with
          | nil => exact absurd (show x.cps.toList.length = 0 by rw [hx]; rfl) (by rw [Array.length_toList]; show x.length ≠ 0; omega)
          | cons c r =>
            have hh : hd x = signD c := by unfold hd; rw [hx]
            simp only [mDef, mDefN, env0, List.map_cons, List.map_nil, List.replicate, List.cons_append, List.nil_append, Nat.reduceSub, msSeq, msIf, msRet, msNil, msSet, msRetN, mVar, mVarW, mC, m1, m2, m2S, m2N, mtE, mtNot, mtOr, mtAnd, mAnd, mOr, mNot, mIf, mN, mTup, mLst, mCB, mCN, maCons, maNil, mCall, mCallN, arity, mSl, moN, moS, mLc, miSeq, R.bind_ok, R.bind_exc, R.bind_bad, R.ofO_some, R.ofO_none, List.getElem?_cons_zero, List.getElem?_cons_succ, List.set_cons_zero, List.set_cons_succ, List.length_cons, List.length_nil, Nat.reduceAdd, Nat.zero_add, if_true, reduceIte, asB, asI, Bool.true_eq_false, Bool.false_eq_true, if_false, Bool.not_true, Bool.not_false, Option.bind_some, Option.map_some, Nat.reduceLeDiff, Nat.zero_le, ix0 hx, signD, ne_str]
            have e3 : lead x = !(D.str ⟨#[c]⟩).eqv (.str "0") := by unfold lead; rw [he, hh]; rfl
            cases h0 : (D.str ⟨#[c]⟩).eqv (.str "0") with
            | true => simp only [mDef, mDefN, env0, List.map_cons, List.map_nil, List.replicate, List.cons_append, List.nil_append, Nat.reduceSub, msSeq, msIf, msRet, msNil, msSet, msRetN, mVar, mVarW, mC, m1, m2, m2S, m2N, mtE, mtNot, mtOr, mtAnd, mAnd, mOr, mNot, mIf, mN, mTup, mLst, mCB, mCN, maCons, maNil, mCall, mCallN, arity, mSl, moN, moS, mLc, miSeq, R.bind_ok, R.bind_exc, R.bind_bad, R.ofO_some, R.ofO_none, List.getElem?_cons_zero, List.getElem?_cons_succ, List.set_cons_zero, List.set_cons_succ, List.length_cons, List.length_nil, Nat.reduceAdd, Nat.zero_add, if_true, reduceIte, asB, asI, Bool.true_eq_false, Bool.false_eq_true, if_false, Bool.not_true, Bool.not_false, Option.bind_some, Option.map_some, Nat.reduceLeDiff, Nat.zero_le]; simp [numR, hn, e3, h0, optD]
            | false =>
              simp only [mDef, mDefN, env0, List.map_cons, List.map_nil, List.replicate, List.cons_append, List.nil_append, Nat.reduceSub, msSeq, msIf, msRet, msNil, msSet, msRetN, mVar, mVarW, mC, m1, m2, m2S, m2N, mtE, mtNot, mtOr, mtAnd, mAnd, mOr, mNot, mIf, mN, mTup, mLst, mCB, mCN, maCons, maNil, mCall, mCallN, arity, mSl, moN, moS, mLc, miSeq, R.bind_ok, R.bind_exc, R.bind_bad, R.ofO_some, R.ofO_none, List.getElem?_cons_zero, List.getElem?_cons_succ, List.set_cons_zero, List.set_cons_succ, List.length_cons, List.length_nil, Nat.reduceAdd, Nat.zero_add, if_true, reduceIte, asB, asI, Bool.true_eq_false, Bool.false_eq_true, if_false, Bool.not_true, Bool.not_false, Option.bind_some, Option.map_some, Nat.reduceLeDiff, Nat.zero_le, fInt, l640, hv]
              simp [numR, hn, e3, h0, hv, optD]
    · simp only [mDef, mDefN, env0, List.map_cons, List.map_nil, List.replicate, List.cons_append, List.nil_append, Nat.reduceSub, msSeq, msIf, msRet, msNil, msSet, msRetN, mVar, mVarW, mC, m1, m2, m2S, m2N, mtE, mtNot, mtOr, mtAnd, mAnd, mOr, mNot, mIf, mN, mTup, mLst, mCB, mCN, maCons, maNil, mCall, mCallN, arity, mSl, moN, moS, mLc, miSeq, R.bind_ok, R.bind_exc, R.bind_bad, R.ofO_some, R.ofO_none, List.getElem?_cons_zero, List.getElem?_cons_succ, List.set_cons_zero, List.set_cons_succ, List.length_cons, List.length_nil, Nat.reduceAdd, Nat.zero_add, if_true, reduceIte, asB, asI, Bool.true_eq_false, Bool.false_eq_true, if_false, Bool.not_true, Bool.not_false, Option.bind_some, Option.map_some, Nat.reduceLeDiff, Nat.zero_le, h1, h2, decide_true, decide_false]
      simp [numR, num, h1, h2, optD]
  · simp only [mDef, mDefN, env0, List.map_cons, List.map_nil, List.replicate, List.cons_append, List.nil_append, Nat.reduceSub, msSeq, msIf, msRet, msNil, msSet, msRetN, mVar, mVarW, mC, m1, m2, m2S, m2N, mtE, mtNot, mtOr, mtAnd, mAnd, mOr, mNot, mIf, mN, mTup, mLst, mCB, mCN, maCons, maNil, mCall, mCallN, arity, mSl, moN, moS, mLc, miSeq, R.bind_ok, R.bind_exc, R.bind_bad, R.ofO_some, R.ofO_none, List.getElem?_cons_zero, List.getElem?_cons_succ, List.set_cons_zero, List.set_cons_succ, List.length_cons, List.length_nil, Nat.reduceAdd, Nat.zero_add, if_true, reduceIte, asB, asI, Bool.true_eq_false, Bool.false_eq_true, if_false, Bool.not_true, Bool.not_false, Option.bind_some, Option.map_some, Nat.reduceLeDiff, Nat.zero_le, h1, decide_false]
    simp [numR, num, h1, optD]

def isLet (n : Int) (x : Str) : Bool := decide (1 ≤ (x.length : Int) ∧ (x.length : Int) ≤ n) && x.cps.toList.all (inL "abcdefghijklmnopqrstuvwxyz")
def letR (n : Int) (x : Str) : Option Str := if isLet n x = true then some x else none
theorem lettered' (x : Str) (n : Int) (s : Bxs) : f_is_lettered [.str x, .int n] s = .ok (.bl (isLet n x)) s := lettered x n s
theorem lowercase' (x : Str) (n : Int) (s : Bxs) : f__law_is_lowercase [.str x, .int n] s = .ok (.bl (isLet n x)) s := lowercase x n s
theorem is_word (x : Str) (s : Bxs) : f_is_word [.str x] s = .ok (.bl (isLet 4 x)) s := by
  unfold f_is_word m_is_word
  simp only [mDef, mDefN, env0, List.map_cons, List.map_nil, List.replicate, List.cons_append, List.nil_append, Nat.reduceSub, msSeq, msIf, msRet, msNil, msSet, msRetN, mVar, mVarW, mC, m1, m2, m2S, m2N, mtE, mtNot, mtOr, mtAnd, mAnd, mOr, mNot, mIf, mN, mTup, mLst, mCB, mCN, maCons, maNil, mCall, mCallN, arity, mSl, moN, moS, mLc, miSeq, R.bind_ok, R.bind_exc, R.bind_bad, R.ofO_some, R.ofO_none, List.getElem?_cons_zero, List.getElem?_cons_succ, List.set_cons_zero, List.set_cons_succ, List.length_cons, List.length_nil, Nat.reduceAdd, Nat.zero_add, if_true, reduceIte, asB, asI, Bool.true_eq_false, Bool.false_eq_true, if_false, Bool.not_true, Bool.not_false, Option.bind_some, Option.map_some, Nat.reduceLeDiff, Nat.zero_le, lettered']
theorem is_name (x : Str) (s : Bxs) : f_is_name [.str x] s = .ok (.bl (isLet 8 x)) s := by
  unfold f_is_name m_is_name
  simp only [mDef, mDefN, env0, List.map_cons, List.map_nil, List.replicate, List.cons_append, List.nil_append, Nat.reduceSub, msSeq, msIf, msRet, msNil, msSet, msRetN, mVar, mVarW, mC, m1, m2, m2S, m2N, mtE, mtNot, mtOr, mtAnd, mAnd, mOr, mNot, mIf, mN, mTup, mLst, mCB, mCN, maCons, maNil, mCall, mCallN, arity, mSl, moN, moS, mLc, miSeq, R.bind_ok, R.bind_exc, R.bind_bad, R.ofO_some, R.ofO_none, List.getElem?_cons_zero, List.getElem?_cons_succ, List.set_cons_zero, List.set_cons_succ, List.length_cons, List.length_nil, Nat.reduceAdd, Nat.zero_add, if_true, reduceIte, asB, asI, Bool.true_eq_false, Bool.false_eq_true, if_false, Bool.not_true, Bool.not_false, Option.bind_some, Option.map_some, Nat.reduceLeDiff, Nat.zero_le, lettered']
theorem word_in (x : Str) (s : Bxs) : f_word_in [.str x] s = .ok (optD .str (letR 4 x)) s := by
  unfold f_word_in m_word_in
  simp only [mDef, mDefN, env0, List.map_cons, List.map_nil, List.replicate, List.cons_append, List.nil_append, Nat.reduceSub, msSeq, msIf, msRet, msNil, msSet, msRetN, mVar, mVarW, mC, m1, m2, m2S, m2N, mtE, mtNot, mtOr, mtAnd, mAnd, mOr, mNot, mIf, mN, mTup, mLst, mCB, mCN, maCons, maNil, mCall, mCallN, arity, mSl, moN, moS, mLc, miSeq, R.bind_ok, R.bind_exc, R.bind_bad, R.ofO_some, R.ofO_none, List.getElem?_cons_zero, List.getElem?_cons_succ, List.set_cons_zero, List.set_cons_succ, List.length_cons, List.length_nil, Nat.reduceAdd, Nat.zero_add, if_true, reduceIte, asB, asI, Bool.true_eq_false, Bool.false_eq_true, if_false, Bool.not_true, Bool.not_false, Option.bind_some, Option.map_some, Nat.reduceLeDiff, Nat.zero_le, is_word]
  cases h : isLet 4 x <;> (simp only [mDef, mDefN, env0, List.map_cons, List.map_nil, List.replicate, List.cons_append, List.nil_append, Nat.reduceSub, msSeq, msIf, msRet, msNil, msSet, msRetN, mVar, mVarW, mC, m1, m2, m2S, m2N, mtE, mtNot, mtOr, mtAnd, mAnd, mOr, mNot, mIf, mN, mTup, mLst, mCB, mCN, maCons, maNil, mCall, mCallN, arity, mSl, moN, moS, mLc, miSeq, R.bind_ok, R.bind_exc, R.bind_bad, R.ofO_some, R.ofO_none, List.getElem?_cons_zero, List.getElem?_cons_succ, List.set_cons_zero, List.set_cons_succ, List.length_cons, List.length_nil, Nat.reduceAdd, Nat.zero_add, if_true, reduceIte, asB, asI, Bool.true_eq_false, Bool.false_eq_true, if_false, Bool.not_true, Bool.not_false, Option.bind_some, Option.map_some, Nat.reduceLeDiff, Nat.zero_le]; simp [letR, h, optD])
theorem name_in (x : Str) (s : Bxs) : f_name_in [.str x] s = .ok (optD .str (letR 8 x)) s := by
  unfold f_name_in m_name_in
  simp only [mDef, mDefN, env0, List.map_cons, List.map_nil, List.replicate, List.cons_append, List.nil_append, Nat.reduceSub, msSeq, msIf, msRet, msNil, msSet, msRetN, mVar, mVarW, mC, m1, m2, m2S, m2N, mtE, mtNot, mtOr, mtAnd, mAnd, mOr, mNot, mIf, mN, mTup, mLst, mCB, mCN, maCons, maNil, mCall, mCallN, arity, mSl, moN, moS, mLc, miSeq, R.bind_ok, R.bind_exc, R.bind_bad, R.ofO_some, R.ofO_none, List.getElem?_cons_zero, List.getElem?_cons_succ, List.set_cons_zero, List.set_cons_succ, List.length_cons, List.length_nil, Nat.reduceAdd, Nat.zero_add, if_true, reduceIte, asB, asI, Bool.true_eq_false, Bool.false_eq_true, if_false, Bool.not_true, Bool.not_false, Option.bind_some, Option.map_some, Nat.reduceLeDiff, Nat.zero_le, is_name]
  cases h : isLet 8 x <;> (simp only [mDef, mDefN, env0, List.map_cons, List.map_nil, List.replicate, List.cons_append, List.nil_append, Nat.reduceSub, msSeq, msIf, msRet, msNil, msSet, msRetN, mVar, mVarW, mC, m1, m2, m2S, m2N, mtE, mtNot, mtOr, mtAnd, mAnd, mOr, mNot, mIf, mN, mTup, mLst, mCB, mCN, maCons, maNil, mCall, mCallN, arity, mSl, moN, moS, mLc, miSeq, R.bind_ok, R.bind_exc, R.bind_bad, R.ofO_some, R.ofO_none, List.getElem?_cons_zero, List.getElem?_cons_succ, List.set_cons_zero, List.set_cons_succ, List.length_cons, List.length_nil, Nat.reduceAdd, Nat.zero_add, if_true, reduceIte, asB, asI, Bool.true_eq_false, Bool.false_eq_true, if_false, Bool.not_true, Bool.not_false, Option.bind_some, Option.map_some, Nat.reduceLeDiff, Nat.zero_le]; simp [letR, h, optD])
theorem filter_empty (x : Str) (z : String) : (List.map signD (x.cps.toList.filter fun c => !inL z c)).isEmpty = x.cps.toList.all (inL z) := by
  induction x.cps.toList with
  | nil => rfl
  | cons c r ih =>
    cases hc : inL z c with
    | true => simp [hc] at ih ⊢; exact ih
    | false => simp [hc]
theorem part_count (x : Str) (s : Bxs) : f__law_parsed_part [.str "count", .str x] s = .ok (.lst (optL .int (numR x))) s := by
  unfold f__law_parsed_part m__law_parsed_part
  have e0 : (D.str "count").eqv (.str "count") = true := by decide +kernel
  simp only [mDef, mDefN, env0, List.map_cons, List.map_nil, List.replicate, List.cons_append, List.nil_append, Nat.reduceSub, msSeq, msIf, msRet, msNil, msSet, msRetN, mVar, mVarW, mC, m1, m2, m2S, m2N, mtE, mtNot, mtOr, mtAnd, mAnd, mOr, mNot, mIf, mN, mTup, mLst, mCB, mCN, maCons, maNil, mCall, mCallN, arity, mSl, moN, moS, mLc, miSeq, R.bind_ok, R.bind_exc, R.bind_bad, R.ofO_some, R.ofO_none, List.getElem?_cons_zero, List.getElem?_cons_succ, List.set_cons_zero, List.set_cons_succ, List.length_cons, List.length_nil, Nat.reduceAdd, Nat.zero_add, if_true, reduceIte, asB, asI, Bool.true_eq_false, Bool.false_eq_true, if_false, Bool.not_true, Bool.not_false, Option.bind_some, Option.map_some, Nat.reduceLeDiff, Nat.zero_le, eq_str, e0, mChain, fLen, opLe]
  have num : isNum x = (decide (1 ≤ (x.length : Int) ∧ (x.length : Int) ≤ 60) && x.cps.toList.all (inL "0123456789")) := rfl
  by_cases h1 : 1 ≤ (x.length : Int)
  · by_cases h2 : (x.length : Int) ≤ 60
    · simp only [mDef, mDefN, env0, List.map_cons, List.map_nil, List.replicate, List.cons_append, List.nil_append, Nat.reduceSub, msSeq, msIf, msRet, msNil, msSet, msRetN, mVar, mVarW, mC, m1, m2, m2S, m2N, mtE, mtNot, mtOr, mtAnd, mAnd, mOr, mNot, mIf, mN, mTup, mLst, mCB, mCN, maCons, maNil, mCall, mCallN, arity, mSl, moN, moS, mLc, miSeq, R.bind_ok, R.bind_exc, R.bind_bad, R.ofO_some, R.ofO_none, List.getElem?_cons_zero, List.getElem?_cons_succ, List.set_cons_zero, List.set_cons_succ, List.length_cons, List.length_nil, Nat.reduceAdd, Nat.zero_add, if_true, reduceIte, asB, asI, Bool.true_eq_false, Bool.false_eq_true, if_false, Bool.not_true, Bool.not_false, Option.bind_some, Option.map_some, Nat.reduceLeDiff, Nat.zero_le, h1, h2, decide_true, seqD]
      rw [signs_if (fun c => !inL "0123456789" c) (inD true) _ 3 x _ s (by show 3 < 4; decide) fun c => nin_sign _ c]
      simp only [mDef, mDefN, env0, List.map_cons, List.map_nil, List.replicate, List.cons_append, List.nil_append, Nat.reduceSub, msSeq, msIf, msRet, msNil, msSet, msRetN, mVar, mVarW, mC, m1, m2, m2S, m2N, mtE, mtNot, mtOr, mtAnd, mAnd, mOr, mNot, mIf, mN, mTup, mLst, mCB, mCN, maCons, maNil, mCall, mCallN, arity, mSl, moN, moS, mLc, miSeq, R.bind_ok, R.bind_exc, R.bind_bad, R.ofO_some, R.ofO_none, List.getElem?_cons_zero, List.getElem?_cons_succ, List.set_cons_zero, List.set_cons_succ, List.length_cons, List.length_nil, Nat.reduceAdd, Nat.zero_add, if_true, reduceIte, asB, asI, Bool.true_eq_false, Bool.false_eq_true, if_false, Bool.not_true, Bool.not_false, Option.bind_some, Option.map_some, Nat.reduceLeDiff, Nat.zero_le, eq_nil _ (ok_signs _), filter_empty]
      have num2 : isNum x = x.cps.toList.all (inL "0123456789") := by rw [num]; simp [h1, h2]
      rw [← num2]
      cases hn : isNum x with
      | false => simp only [mDef, mDefN, env0, List.map_cons, List.map_nil, List.replicate, List.cons_append, List.nil_append, Nat.reduceSub, msSeq, msIf, msRet, msNil, msSet, msRetN, mVar, mVarW, mC, m1, m2, m2S, m2N, mtE, mtNot, mtOr, mtAnd, mAnd, mOr, mNot, mIf, mN, mTup, mLst, mCB, mCN, maCons, maNil, mCall, mCallN, arity, mSl, moN, moS, mLc, miSeq, R.bind_ok, R.bind_exc, R.bind_bad, R.ofO_some, R.ofO_none, List.getElem?_cons_zero, List.getElem?_cons_succ, List.set_cons_zero, List.set_cons_succ, List.length_cons, List.length_nil, Nat.reduceAdd, Nat.zero_add, if_true, reduceIte, asB, asI, Bool.true_eq_false, Bool.false_eq_true, if_false, Bool.not_true, Bool.not_false, Option.bind_some, Option.map_some, Nat.reduceLeDiff, Nat.zero_le]; simp [numR, hn, optL]
      | true =>
        obtain ⟨n, hv, _, hl, hl1⟩ := num_some hn
        have l640 : x.length ≤ 640 := by omega
        cases hx : x.cps.toList with
        | nil => exact absurd (show x.cps.toList.length = 0 by rw [hx]; rfl) (by rw [Array.length_toList]; show x.length ≠ 0; omega)
        | cons c r =>
          have hh : hd x = signD c := by unfold hd; rw [hx]
          simp only [mDef, mDefN, env0, List.map_cons, List.map_nil, List.replicate, List.cons_append, List.nil_append, Nat.reduceSub, msSeq, msIf, msRet, msNil, msSet, msRetN, mVar, mVarW, mC, m1, m2, m2S, m2N, mtE, mtNot, mtOr, mtAnd, mAnd, mOr, mNot, mIf, mN, mTup, mLst, mCB, mCN, maCons, maNil, mCall, mCallN, arity, mSl, moN, moS, mLc, miSeq, R.bind_ok, R.bind_exc, R.bind_bad, R.ofO_some, R.ofO_none, List.getElem?_cons_zero, List.getElem?_cons_succ, List.set_cons_zero, List.set_cons_succ, List.length_cons, List.length_nil, Nat.reduceAdd, Nat.zero_add, if_true, reduceIte, asB, asI, Bool.true_eq_false, Bool.false_eq_true, if_false, Bool.not_true, Bool.not_false, Option.bind_some, Option.map_some, Nat.reduceLeDiff, Nat.zero_le, ix0 hx, signD, ne_str]
          have e3 : lead x = ((D.str x).eqv (.str "0") || !(D.str ⟨#[c]⟩).eqv (.str "0")) := by unfold lead; rw [hh]; rfl
          cases h0 : (D.str ⟨#[c]⟩).eqv (.str "0") with
          | false =>
            simp only [mDef, mDefN, env0, List.map_cons, List.map_nil, List.replicate, List.cons_append, List.nil_append, Nat.reduceSub, msSeq, msIf, msRet, msNil, msSet, msRetN, mVar, mVarW, mC, m1, m2, m2S, m2N, mtE, mtNot, mtOr, mtAnd, mAnd, mOr, mNot, mIf, mN, mTup, mLst, mCB, mCN, maCons, maNil, mCall, mCallN, arity, mSl, moN, moS, mLc, miSeq, R.bind_ok, R.bind_exc, R.bind_bad, R.ofO_some, R.ofO_none, List.getElem?_cons_zero, List.getElem?_cons_succ, List.set_cons_zero, List.set_cons_succ, List.length_cons, List.length_nil, Nat.reduceAdd, Nat.zero_add, if_true, reduceIte, asB, asI, Bool.true_eq_false, Bool.false_eq_true, if_false, Bool.not_true, Bool.not_false, Option.bind_some, Option.map_some, Nat.reduceLeDiff, Nat.zero_le, fInt, l640, hv]
            simp [numR, hn, e3, h0, hv, optL]
          | true =>
            cases he : (D.str x).eqv (.str "0") with
            | true => simp only [mDef, mDefN, env0, List.map_cons, List.map_nil, List.replicate, List.cons_append, List.nil_append, Nat.reduceSub, msSeq, msIf, msRet, msNil, msSet, msRetN, mVar, mVarW, mC, m1, m2, m2S, m2N, mtE, mtNot, mtOr, mtAnd, mAnd, mOr, mNot, mIf, mN, mTup, mLst, mCB, mCN, maCons, maNil, mCall, mCallN, arity, mSl, moN, moS, mLc, miSeq, R.bind_ok, R.bind_exc, R.bind_bad, R.ofO_some, R.ofO_none, List.getElem?_cons_zero, List.getElem?_cons_succ, List.set_cons_zero, List.set_cons_succ, List.length_cons, List.length_nil, Nat.reduceAdd, Nat.zero_add, if_true, reduceIte, asB, asI, Bool.true_eq_false, Bool.false_eq_true, if_false, Bool.not_true, Bool.not_false, Option.bind_some, Option.map_some, Nat.reduceLeDiff, Nat.zero_le, fInt, l640, hv, eq_str, he]; simp [numR, hn, e3, he, hv, optL]
            | false => simp only [mDef, mDefN, env0, List.map_cons, List.map_nil, List.replicate, List.cons_append, List.nil_append, Nat.reduceSub, msSeq, msIf, msRet, msNil, msSet, msRetN, mVar, mVarW, mC, m1, m2, m2S, m2N, mtE, mtNot, mtOr, mtAnd, mAnd, mOr, mNot, mIf, mN, mTup, mLst, mCB, mCN, maCons, maNil, mCall, mCallN, arity, mSl, moN, moS, mLc, miSeq, R.bind_ok, R.bind_exc, R.bind_bad, R.ofO_some, R.ofO_none, List.getElem?_cons_zero, List.getElem?_cons_succ, List.set_cons_zero, List.set_cons_succ, List.length_cons, List.length_nil, Nat.reduceAdd, Nat.zero_add, if_true, reduceIte, asB, asI, Bool.true_eq_false, Bool.false_eq_true, if_false, Bool.not_true, Bool.not_false, Option.bind_some, Option.map_some, Nat.reduceLeDiff, Nat.zero_le, eq_str, he]; simp [numR, hn, e3, he, h0, optL]
    · simp only [mDef, mDefN, env0, List.map_cons, List.map_nil, List.replicate, List.cons_append, List.nil_append, Nat.reduceSub, msSeq, msIf, msRet, msNil, msSet, msRetN, mVar, mVarW, mC, m1, m2, m2S, m2N, mtE, mtNot, mtOr, mtAnd, mAnd, mOr, mNot, mIf, mN, mTup, mLst, mCB, mCN, maCons, maNil, mCall, mCallN, arity, mSl, moN, moS, mLc, miSeq, R.bind_ok, R.bind_exc, R.bind_bad, R.ofO_some, R.ofO_none, List.getElem?_cons_zero, List.getElem?_cons_succ, List.set_cons_zero, List.set_cons_succ, List.length_cons, List.length_nil, Nat.reduceAdd, Nat.zero_add, if_true, reduceIte, asB, asI, Bool.true_eq_false, Bool.false_eq_true, if_false, Bool.not_true, Bool.not_false, Option.bind_some, Option.map_some, Nat.reduceLeDiff, Nat.zero_le, h1, h2, decide_true, decide_false]
      simp [numR, num, h1, h2, optL]
  · simp only [mDef, mDefN, env0, List.map_cons, List.map_nil, List.replicate, List.cons_append, List.nil_append, Nat.reduceSub, msSeq, msIf, msRet, msNil, msSet, msRetN, mVar, mVarW, mC, m1, m2, m2S, m2N, mtE, mtNot, mtOr, mtAnd, mAnd, mOr, mNot, mIf, mN, mTup, mLst, mCB, mCN, maCons, maNil, mCall, mCallN, arity, mSl, moN, moS, mLc, miSeq, R.bind_ok, R.bind_exc, R.bind_bad, R.ofO_some, R.ofO_none, List.getElem?_cons_zero, List.getElem?_cons_succ, List.set_cons_zero, List.set_cons_succ, List.length_cons, List.length_nil, Nat.reduceAdd, Nat.zero_add, if_true, reduceIte, asB, asI, Bool.true_eq_false, Bool.false_eq_true, if_false, Bool.not_true, Bool.not_false, Option.bind_some, Option.map_some, Nat.reduceLeDiff, Nat.zero_le, h1, decide_false]
    simp [numR, num, h1, optL]
theorem part_spell (x : Str) (s : Bxs) : f__law_parsed_part [.str "spell", .str x] s = .ok (.lst (optL .str (letR 4 x))) s := by
  unfold f__law_parsed_part m__law_parsed_part
  have e0 : (D.str "spell").eqv (.str "count") = false := by decide +kernel
  have e1 : (D.str "spell").eqv (.str "spell") = true := by decide +kernel
  simp only [mDef, mDefN, env0, List.map_cons, List.map_nil, List.replicate, List.cons_append, List.nil_append, Nat.reduceSub, msSeq, msIf, msRet, msNil, msSet, msRetN, mVar, mVarW, mC, m1, m2, m2S, m2N, mtE, mtNot, mtOr, mtAnd, mAnd, mOr, mNot, mIf, mN, mTup, mLst, mCB, mCN, maCons, maNil, mCall, mCallN, arity, mSl, moN, moS, mLc, miSeq, R.bind_ok, R.bind_exc, R.bind_bad, R.ofO_some, R.ofO_none, List.getElem?_cons_zero, List.getElem?_cons_succ, List.set_cons_zero, List.set_cons_succ, List.length_cons, List.length_nil, Nat.reduceAdd, Nat.zero_add, if_true, reduceIte, asB, asI, Bool.true_eq_false, Bool.false_eq_true, if_false, Bool.not_true, Bool.not_false, Option.bind_some, Option.map_some, Nat.reduceLeDiff, Nat.zero_le, eq_str, e0, e1, lowercase']
  cases h : isLet 4 x <;> (simp only [mDef, mDefN, env0, List.map_cons, List.map_nil, List.replicate, List.cons_append, List.nil_append, Nat.reduceSub, msSeq, msIf, msRet, msNil, msSet, msRetN, mVar, mVarW, mC, m1, m2, m2S, m2N, mtE, mtNot, mtOr, mtAnd, mAnd, mOr, mNot, mIf, mN, mTup, mLst, mCB, mCN, maCons, maNil, mCall, mCallN, arity, mSl, moN, moS, mLc, miSeq, R.bind_ok, R.bind_exc, R.bind_bad, R.ofO_some, R.ofO_none, List.getElem?_cons_zero, List.getElem?_cons_succ, List.set_cons_zero, List.set_cons_succ, List.length_cons, List.length_nil, Nat.reduceAdd, Nat.zero_add, if_true, reduceIte, asB, asI, Bool.true_eq_false, Bool.false_eq_true, if_false, Bool.not_true, Bool.not_false, Option.bind_some, Option.map_some, Nat.reduceLeDiff, Nat.zero_le]; simp [letR, h, optL])
theorem part_who (x : Str) (s : Bxs) : f__law_parsed_part [.str "who", .str x] s = .ok (.lst (optL .str (letR 8 x))) s := by
  unfold f__law_parsed_part m__law_parsed_part
  have e0 : (D.str "who").eqv (.str "count") = false := by decide +kernel
  have e1 : (D.str "who").eqv (.str "spell") = false := by decide +kernel
  simp only [mDef, mDefN, env0, List.map_cons, List.map_nil, List.replicate, List.cons_append, List.nil_append, Nat.reduceSub, msSeq, msIf, msRet, msNil, msSet, msRetN, mVar, mVarW, mC, m1, m2, m2S, m2N, mtE, mtNot, mtOr, mtAnd, mAnd, mOr, mNot, mIf, mN, mTup, mLst, mCB, mCN, maCons, maNil, mCall, mCallN, arity, mSl, moN, moS, mLc, miSeq, R.bind_ok, R.bind_exc, R.bind_bad, R.ofO_some, R.ofO_none, List.getElem?_cons_zero, List.getElem?_cons_succ, List.set_cons_zero, List.set_cons_succ, List.length_cons, List.length_nil, Nat.reduceAdd, Nat.zero_add, if_true, reduceIte, asB, asI, Bool.true_eq_false, Bool.false_eq_true, if_false, Bool.not_true, Bool.not_false, Option.bind_some, Option.map_some, Nat.reduceLeDiff, Nat.zero_le, eq_str, e0, e1, lowercase']
  cases h : isLet 8 x <;> (simp only [mDef, mDefN, env0, List.map_cons, List.map_nil, List.replicate, List.cons_append, List.nil_append, Nat.reduceSub, msSeq, msIf, msRet, msNil, msSet, msRetN, mVar, mVarW, mC, m1, m2, m2S, m2N, mtE, mtNot, mtOr, mtAnd, mAnd, mOr, mNot, mIf, mN, mTup, mLst, mCB, mCN, maCons, maNil, mCall, mCallN, arity, mSl, moN, moS, mLc, miSeq, R.bind_ok, R.bind_exc, R.bind_bad, R.ofO_some, R.ofO_none, List.getElem?_cons_zero, List.getElem?_cons_succ, List.set_cons_zero, List.set_cons_succ, List.length_cons, List.length_nil, Nat.reduceAdd, Nat.zero_add, if_true, reduceIte, asB, asI, Bool.true_eq_false, Bool.false_eq_true, if_false, Bool.not_true, Bool.not_false, Option.bind_some, Option.map_some, Nat.reduceLeDiff, Nat.zero_le]; simp [letR, h, optL])
end K85

set_option maxRecDepth 100000
set_option maxHeartbeats 4000000
namespace K85
open PySem PySem.Spec PyProof.Rows L2 UH PySem.NumText

/-! ### a line, as both read it -/
/-- what the f-th reader makes of a part -/
def rd : Nat → Str → Option D
  | 0, p => (numR p).map .int
  | 1, p => (letR 4 p).map .str
  | _, p => (letR 8 p).map .str
def sortOf : Nat → Str
  | 0 => "count"
  | 1 => "spell"
  | _ => "who"
theorem optD_eq {α : Type} (f : α → D) (o : Option α) : optD f o = (o.map f).getD .non := by cases o <;> rfl
theorem optL_eq {α : Type} (f : α → D) (o : Option α) : optL f o = (o.map f).toList := by cases o <;> rfl
theorem parsed (f : Nat) (p : Str) (s : Bxs) : f__law_parsed_part [.str (sortOf f), .str p] s = .ok (.lst (rd f p).toList) s := by
  match f with
  | 0 => rw [show sortOf 0 = "count" from rfl, part_count, optL_eq] <;> rfl
  | 1 => rw [show sortOf 1 = "spell" from rfl, part_spell, optL_eq] <;> rfl
  | n + 2 => rw [show sortOf (n + 2) = "who" from rfl, part_who, optL_eq] <;> rfl
/-- no such value is None, nor deep -/
def flatD : D → Prop
  | .non => True
  | .int _ => True
  | .str _ => True
  | _ => False
theorem rd_flat {f : Nat} {p : Str} {d : D} (h : rd f p = some d) : flatD d ∧ d.eqv .non = false := by
  match f with
  | 0 =>
    have h : (numR p).map D.int = some d := h
    cases e : numR p with
    | none => rw [e] at h; cases h
    | some n => rw [e] at h; cases h; exact ⟨trivial, rfl⟩
  | 1 =>
    have h : (letR 4 p).map D.str = some d := h
    cases e : letR 4 p with
    | none => rw [e] at h; cases h
    | some n => rw [e] at h; cases h; exact ⟨trivial, rfl⟩
  | n + 2 =>
    have h : (letR 8 p).map D.str = some d := h
    cases e : letR 8 p with
    | none => rw [e] at h; cases h
    | some n => rw [e] at h; cases h; exact ⟨trivial, rfl⟩
theorem flat_pl {d : D} (h : flatD d) : D.pl d = true ∧ d.toP.depth = 0 := by cases d <;> first | exact ⟨rfl, rfl⟩ | exact h.elim
theorem flats : ∀ {ds : List D}, (∀ d ∈ ds, flatD d) → D.pls ds = true ∧ PyData.depthAll (D.toPs ds) = 0
  | [], _ => ⟨rfl, rfl⟩
  | d :: r, h => by
    obtain ⟨h1, h2⟩ := flat_pl (h d List.mem_cons_self)
    obtain ⟨h3, h4⟩ := flats fun x hx => h x (List.mem_cons_of_mem _ hx)
    refine ⟨by show (D.pl d && D.pls r) = true; rw [h1, h3] <;> rfl, ?_⟩
    show max d.toP.depth (PyData.depthAll (D.toPs r)) = 0
    rw [h2, h4] <;> rfl
theorem flat_ok {ds : List D} (h : ∀ d ∈ ds, flatD d) : (D.lst ds).ok = true := by
  obtain ⟨h1, h2⟩ := flats h
  unfold D.ok
  rw [Bool.and_eq_true]
  refine ⟨h1, decide_eq_true ?_⟩
  show PyData.depthAll (D.toPs ds) + 1 ≤ 60
  rw [h2]; decide
/-- the part that is at fault, or the values -/
def walk : List Nat → List Str → Nat → Nat ⊕ List D
  | [], _, _ => .inr []
  | _ :: _, [], i => .inl i
  | f :: fs, p :: ps, i => match rd f p with
    | none => .inl i
    | some d => match walk fs ps (i + 1) with
      | .inl j => .inl j
      | .inr ds => .inr (d :: ds)
def founds (fs : List Nat) (ps : List Str) : List D := (fs.zip ps).map fun q => (rd q.1 q.2).getD .non
theorem founds_flat : ∀ (fs : List Nat) (ps : List Str), ∀ d ∈ founds fs ps, flatD d := fun fs ps d hd => by
  obtain ⟨q, _, rfl⟩ := List.mem_map.mp hd
  cases h : rd q.1 q.2 with
  | none => trivial
  | some d => exact (rd_flat h).1
/-- the walk, told by the list of what was found -/
theorem walk_of : ∀ (fs : List Nat) (ps : List Str) (i : Nat), walk fs ps i = match (founds fs ps).findIdx? (fun z => z.eqv .non) with
    | some j => .inl (i + j)
    | none => if fs.length ≤ ps.length then .inr (founds fs ps) else .inl (i + ps.length)
  | [], ps, i => by simp [walk, founds]
  | f :: fs, [], i => by simp [walk, founds]
  | f :: fs, p :: ps, i => by
    have e : founds (f :: fs) (p :: ps) = (rd f p).getD .non :: founds fs ps := rfl
    rw [e, List.findIdx?_cons]
    unfold walk
    cases h : rd f p with
    | none =>
      have : D.eqv .non .non = true := rfl
      simp [this]
    | some d =>
      have hd := (rd_flat h).2
      have ih := walk_of fs ps (i + 1)
      simp only [Option.getD_some, hd, Bool.false_eq_true, if_false]
      rw [ih]
      cases hj : (founds fs ps).findIdx? (fun z => z.eqv .non) with
      | some j => simp; omega
      | none =>
        simp only [Option.map_none]
        by_cases hl : fs.length ≤ ps.length
        · simp [hl]
        · simp [hl]; omega

def kindsOf (k : Str) : Option (List Nat) := if k = "hear" then some [0, 1] else if k = "do" then some [2, 2, 0] else if k = "tell" then some [2, 2, 0] else none
/-- what stands in a line: the word at fault, or the row -/
def readL (x : Str) : Nat ⊕ List D := match Txt.split x " " with
  | [] => .inl 0
  | k :: ps => match kindsOf k with
    | none => .inl 0
    | some fs => match walk fs ps 0 with
      | .inl j => .inl (j + 1)
      | .inr ds => if ps.length = fs.length then .inr (.str k :: ds) else .inl (fs.length + 1)
theorem reads_one (f : Nat) (hf : f ≤ 2) (p : Str) (s : Bxs) : ∃ g, readerFs f = some g ∧ g [.str p] s = .ok ((rd f p).getD .non) s := by
  match f, hf with
  | 0, _ => exact ⟨_, rfl, by rw [number_in, optD_eq] <;> rfl⟩
  | 1, _ => exact ⟨_, rfl, by rw [word_in, optD_eq] <;> rfl⟩
  | 2, _ => exact ⟨_, rfl, by rw [name_in, optD_eq] <;> rfl⟩
theorem lc_zip (env : En) (hl : env.length = 8) (s : Bxs) : ∀ (fs : List Nat) (ps : List Str), (∀ f ∈ fs, f ≤ 2) → lcLoop [6, 7] (tgT 2 (tgCons (tgN 6) (tgCons (tgN 7) tgNil))) mtYes (mCallL readerFs 1 6 (maCons (mVar 7) maNil)) env (zipD (fs.map .fn) (ps.map .str)) s = .ok (founds fs ps) s
  | [], ps, _ => by cases ps <;> rfl
  | f :: fs, [], _ => rfl
  | f :: fs, p :: ps, h => by
    have ih := lc_zip env hl s fs ps fun g hg => h g (List.mem_cons_of_mem _ hg)
    obtain ⟨g, hg, hv⟩ := reads_one f (h f List.mem_cons_self) p s
    have e0 : zipD ((f :: fs).map D.fn) ((p :: ps).map .str) = .tup [.fn f, .str p] :: zipD (fs.map .fn) (ps.map .str) := rfl
    rw [e0]
    have l1 : (wipeE env [6, 7]).length = 8 := by rw [wipe_len]; exact hl
    have e6 : (((wipeE env [6, 7]).set 6 (.val (.fn f))).set 7 (.val (.str p)))[6]? = some (.val (.fn f)) := by rw [List.getElem?_set_ne (by decide), List.getElem?_set_self (by omega)]
    have e7 : (((wipeE env [6, 7]).set 6 (.val (.fn f))).set 7 (.val (.str p)))[7]? = some (.val (.str p)) := by rw [List.getElem?_set_self (by rw [List.length_set]; omega)]
    unfold lcLoop
    show (match ((some ((wipeE env [6, 7]).set 6 (.val (.fn f)))).bind fun env' => (some (env'.set 7 (.val (.str p)))).bind fun env' => some env') with
      | none => R.bad
      | some env' => _) = _
    simp only [mDef, mDefN, env0, List.map_cons, List.map_nil, List.replicate, List.cons_append, List.nil_append, Nat.reduceSub, msSeq, msIf, msRet, msNil, msSet, msRetN, mVar, mVarW, mC, m1, m2, m2S, m2N, mtE, mtNot, mtOr, mtAnd, mAnd, mOr, mNot, mIf, mN, mTup, mLst, mCB, mCN, maCons, maNil, mCall, mCallN, arity, mSl, moN, moS, mLc, miSeq, R.bind_ok, R.bind_exc, R.bind_bad, R.ofO_some, R.ofO_none, List.getElem?_cons_zero, List.getElem?_cons_succ, List.set_cons_zero, List.set_cons_succ, List.length_cons, List.length_nil, Nat.reduceAdd, Nat.zero_add, if_true, reduceIte, asB, asI, Bool.true_eq_false, Bool.false_eq_true, if_false, Bool.not_true, Bool.not_false, Option.bind_some, Option.map_some, Nat.reduceLeDiff, Nat.zero_le, mtYes, mCallL, e6, e7, hg, hv, ih]
    rfl
theorem kin_eq (k : Str) : kIn true readersT (.str k) = some (.bl (kindsOf k).isNone) := by
  by_cases h1 : k = "hear"
  · subst h1; rfl
  · by_cases h2 : k = "do"
    · subst h2; rfl
    · by_cases h3 : k = "tell"
      · subst h3; rfl
      · have e : (readersT.any fun p => decide (p.1 = k)) = false := by simp [readersT, Ne.symm h1, Ne.symm h2, Ne.symm h3]
        show some (D.bl (!(readersT.any fun p => decide (p.1 = k)))) = _
        rw [e]
        simp [kindsOf, h1, h2, h3]
theorem kget_eq (k : Str) (fs : List Nat) (h : kindsOf k = some fs) : kGet readersT (.str k) = some (.tup (fs.map .fn)) ∧ (∀ f ∈ fs, f ≤ 2) ∧ fs.length ≤ 3 := by
  unfold kindsOf at h
  split at h
  · rename_i e; subst e; cases h; exact ⟨rfl, by decide, by decide⟩
  · split at h
    · rename_i e; subst e; cases h; exact ⟨rfl, by decide, by decide⟩
    · split at h
      · rename_i e; subst e; cases h; exact ⟨rfl, by decide, by decide⟩
      · cases h
theorem split_ne (x : Str) : ∃ k ps, Txt.split x " " = k :: ps := by
  unfold Txt.split
  split
  · exact ⟨_, _, rfl⟩
  · split
    · exact ⟨_, _, rfl⟩
    · rw [PySem.StrLaws.partsBetween_eq]
      exact PySem.StrLaws.partsFrom_ne _ _ _ _
theorem split_op (x : Str) (hx : x.length + 2 ≤ sizeLine) : opSplit (.str x) (.str " ") = some ((Txt.split x " ").map .str) := by
  show (if ((" " : Str).length ≠ 0 ∧ x.length + 2 ≤ sizeLine) then _ else _) = _
  rw [if_pos ⟨by decide, hx⟩]

theorem in_non (F : List D) (h : ∀ d ∈ F, flatD d) : inD false .non (.lst F) = some (.bl (F.any fun z => z.eqv .non)) := by
  show (if (D.non.ok && (D.lst F).ok) = true then _ else _) = _
  rw [flat_ok h, show D.non.ok = true from rfl]
  rfl
theorem index_non (F : List D) (h : ∀ d ∈ F, flatD d) : opIndex (.lst F) .non = (F.findIdx? fun z => z.eqv .non).map fun (j : Nat) => .int (j : Int) := by
  show (if ((D.lst F).ok && D.non.ok) = true then _ else _) = _
  rw [flat_ok h, show D.non.ok = true from rfl]
  rfl
theorem founds_len (fs : List Nat) (ps : List Str) : (founds fs ps).length = min fs.length ps.length := by
  unfold founds
  rw [List.length_map, List.length_zip]
theorem any_find (F : List D) : (F.any fun z => z.eqv .non) = (F.findIdx? fun z => z.eqv .non).isSome := (List.findIdx?_isSome).symm
def outX (n : Int) (s : Bxs) : Nat ⊕ List D → R D
  | .inl w => .exc 0 [.int w, .int n] s
  | .inr ds => .ok (.tup ds) s
theorem ne_int (i j : Int) : opNe (.int i) (.int j) = some (.bl (!(i == j))) := rfl
theorem entry (x : Str) (n : Int) (s : Bxs) (hx : x.length + 2 ≤ sizeLine) : f_entry_read [.str x, .int n] s = outX n s (readL x) := by
  obtain ⟨k, ps, hs⟩ := split_ne x
  have hp : ps.length + 1 ≤ sizeLine := by
    have := PyProof.Rows.split_le x " "
    rw [hs, List.length_cons] at this
    omega
  unfold f_entry_read m_entry_read readL
  rw [hs]
  simp only [mDef, mDefN, env0, List.map_cons, List.map_nil, List.replicate, List.cons_append, List.nil_append, Nat.reduceSub, msSeq, msIf, msRet, msNil, msSet, msRetN, mVar, mVarW, mC, m1, m2, m2S, m2N, mtE, mtNot, mtOr, mtAnd, mAnd, mOr, mNot, mIf, mN, mTup, mLst, mCB, mCN, maCons, maNil, mCall, mCallN, arity, mSl, moN, moS, mLc, miSeq, R.bind_ok, R.bind_exc, R.bind_bad, R.ofO_some, R.ofO_none, List.getElem?_cons_zero, List.getElem?_cons_succ, List.set_cons_zero, List.set_cons_succ, List.length_cons, List.length_nil, Nat.reduceAdd, Nat.zero_add, if_true, reduceIte, asB, asI, Bool.true_eq_false, Bool.false_eq_true, if_false, Bool.not_true, Bool.not_false, Option.bind_some, Option.map_some, Nat.reduceLeDiff, Nat.zero_le, msStar, asStr, split_op x hx, hs, kin_eq]
  cases hk : kindsOf k with
  | none =>
    simp only [mDef, mDefN, env0, List.map_cons, List.map_nil, List.replicate, List.cons_append, List.nil_append, Nat.reduceSub, msSeq, msIf, msRet, msNil, msSet, msRetN, mVar, mVarW, mC, m1, m2, m2S, m2N, mtE, mtNot, mtOr, mtAnd, mAnd, mOr, mNot, mIf, mN, mTup, mLst, mCB, mCN, maCons, maNil, mCall, mCallN, arity, mSl, moN, moS, mLc, miSeq, R.bind_ok, R.bind_exc, R.bind_bad, R.ofO_some, R.ofO_none, List.getElem?_cons_zero, List.getElem?_cons_succ, List.set_cons_zero, List.set_cons_succ, List.length_cons, List.length_nil, Nat.reduceAdd, Nat.zero_add, if_true, reduceIte, asB, asI, Bool.true_eq_false, Bool.false_eq_true, if_false, Bool.not_true, Bool.not_false, Option.bind_some, Option.map_some, Nat.reduceLeDiff, Nat.zero_le, msRaise, selR, Option.isNone_none, and_self]
    rfl
  | some fs =>
    obtain ⟨hg, hf, h3⟩ := kget_eq k fs hk
    simp only [mDef, mDefN, env0, List.map_cons, List.map_nil, List.replicate, List.cons_append, List.nil_append, Nat.reduceSub, msSeq, msIf, msRet, msNil, msSet, msRetN, mVar, mVarW, mC, m1, m2, m2S, m2N, mtE, mtNot, mtOr, mtAnd, mAnd, mOr, mNot, mIf, mN, mTup, mLst, mCB, mCN, maCons, maNil, mCall, mCallN, arity, mSl, moN, moS, mLc, miSeq, R.bind_ok, R.bind_exc, R.bind_bad, R.ofO_some, R.ofO_none, List.getElem?_cons_zero, List.getElem?_cons_succ, List.set_cons_zero, List.set_cons_succ, List.length_cons, List.length_nil, Nat.reduceAdd, Nat.zero_add, if_true, reduceIte, asB, asI, Bool.true_eq_false, Bool.false_eq_true, if_false, Bool.not_true, Bool.not_false, Option.bind_some, Option.map_some, Nat.reduceLeDiff, Nat.zero_le, Option.isNone_some, hg, msLst, miZip, fZip]
    rw [lc_zip _ (by rfl) s fs ps hf]
    simp only [mDef, mDefN, env0, List.map_cons, List.map_nil, List.replicate, List.cons_append, List.nil_append, Nat.reduceSub, msSeq, msIf, msRet, msNil, msSet, msRetN, mVar, mVarW, mC, m1, m2, m2S, m2N, mtE, mtNot, mtOr, mtAnd, mAnd, mOr, mNot, mIf, mN, mTup, mLst, mCB, mCN, maCons, maNil, mCall, mCallN, arity, mSl, moN, moS, mLc, miSeq, R.bind_ok, R.bind_exc, R.bind_bad, R.ofO_some, R.ofO_none, List.getElem?_cons_zero, List.getElem?_cons_succ, List.set_cons_zero, List.set_cons_succ, List.length_cons, List.length_nil, Nat.reduceAdd, Nat.zero_add, if_true, reduceIte, asB, asI, Bool.true_eq_false, Bool.false_eq_true, if_false, Bool.not_true, Bool.not_false, Option.bind_some, Option.map_some, Nat.reduceLeDiff, Nat.zero_le, in_non _ (founds_flat fs ps), any_find]
    rw [walk_of fs ps 0]
    cases hj : (founds fs ps).findIdx? (fun z => z.eqv .non) with
    | some j =>
      simp only [mDef, mDefN, env0, List.map_cons, List.map_nil, List.replicate, List.cons_append, List.nil_append, Nat.reduceSub, msSeq, msIf, msRet, msNil, msSet, msRetN, mVar, mVarW, mC, m1, m2, m2S, m2N, mtE, mtNot, mtOr, mtAnd, mAnd, mOr, mNot, mIf, mN, mTup, mLst, mCB, mCN, maCons, maNil, mCall, mCallN, arity, mSl, moN, moS, mLc, miSeq, R.bind_ok, R.bind_exc, R.bind_bad, R.ofO_some, R.ofO_none, List.getElem?_cons_zero, List.getElem?_cons_succ, List.set_cons_zero, List.set_cons_succ, List.length_cons, List.length_nil, Nat.reduceAdd, Nat.zero_add, if_true, reduceIte, asB, asI, Bool.true_eq_false, Bool.false_eq_true, if_false, Bool.not_true, Bool.not_false, Option.bind_some, Option.map_some, Nat.reduceLeDiff, Nat.zero_le, Option.isSome_some, msRaise, mIndex, index_non _ (founds_flat fs ps), hj, opAddL, opAdd, selR, and_self]
      simp [outX]
    | none =>
      simp only [mDef, mDefN, env0, List.map_cons, List.map_nil, List.replicate, List.cons_append, List.nil_append, Nat.reduceSub, msSeq, msIf, msRet, msNil, msSet, msRetN, mVar, mVarW, mC, m1, m2, m2S, m2N, mtE, mtNot, mtOr, mtAnd, mAnd, mOr, mNot, mIf, mN, mTup, mLst, mCB, mCN, maCons, maNil, mCall, mCallN, arity, mSl, moN, moS, mLc, miSeq, R.bind_ok, R.bind_exc, R.bind_bad, R.ofO_some, R.ofO_none, List.getElem?_cons_zero, List.getElem?_cons_succ, List.set_cons_zero, List.set_cons_succ, List.length_cons, List.length_nil, Nat.reduceAdd, Nat.zero_add, if_true, reduceIte, asB, asI, Bool.true_eq_false, Bool.false_eq_true, if_false, Bool.not_true, Bool.not_false, Option.bind_some, Option.map_some, Nat.reduceLeDiff, Nat.zero_le, Option.isSome_none, fLen, ne_int, List.length_map]
      have hl := founds_len fs ps
      by_cases he : ps.length = fs.length
      · have e1 : ((ps.length : Int) == (fs.length : Int)) = true := by rw [he]; simp
        have le : fs.length ≤ ps.length := by omega
        have l2 : (founds fs ps).length ≤ 3 := by omega
        have l4 : 1 + (founds fs ps).length ≤ sizeLine := by rw [sizeLine_eq]; omega
        simp only [mDef, mDefN, env0, List.map_cons, List.map_nil, List.replicate, List.cons_append, List.nil_append, Nat.reduceSub, msSeq, msIf, msRet, msNil, msSet, msRetN, mVar, mVarW, mC, m1, m2, m2S, m2N, mtE, mtNot, mtOr, mtAnd, mAnd, mOr, mNot, mIf, mN, mTup, mLst, mCB, mCN, maCons, maNil, mCall, mCallN, arity, mSl, moN, moS, mLc, miSeq, R.bind_ok, R.bind_exc, R.bind_bad, R.ofO_some, R.ofO_none, List.getElem?_cons_zero, List.getElem?_cons_succ, List.set_cons_zero, List.set_cons_succ, List.length_cons, List.length_nil, Nat.reduceAdd, Nat.zero_add, if_true, reduceIte, asB, asI, Bool.true_eq_false, Bool.false_eq_true, if_false, Bool.not_true, Bool.not_false, Option.bind_some, Option.map_some, Nat.reduceLeDiff, Nat.zero_le, e1, fTup, opAddL, opAdd, l4]
        simp [outX, he]
      · have e1 : ((ps.length : Int) == (fs.length : Int)) = false := by simp; omega
        simp only [mDef, mDefN, env0, List.map_cons, List.map_nil, List.replicate, List.cons_append, List.nil_append, Nat.reduceSub, msSeq, msIf, msRet, msNil, msSet, msRetN, mVar, mVarW, mC, m1, m2, m2S, m2N, mtE, mtNot, mtOr, mtAnd, mAnd, mOr, mNot, mIf, mN, mTup, mLst, mCB, mCN, maCons, maNil, mCall, mCallN, arity, mSl, moN, moS, mLc, miSeq, R.bind_ok, R.bind_exc, R.bind_bad, R.ofO_some, R.ofO_none, List.getElem?_cons_zero, List.getElem?_cons_succ, List.set_cons_zero, List.set_cons_succ, List.length_cons, List.length_nil, Nat.reduceAdd, Nat.zero_add, if_true, reduceIte, asB, asI, Bool.true_eq_false, Bool.false_eq_true, if_false, Bool.not_true, Bool.not_false, Option.bind_some, Option.map_some, Nat.reduceLeDiff, Nat.zero_le, e1, msRaise, fMin, fLen, List.length_map, opAddL, opAdd, selR, and_self]
        by_cases hlt : fs.length ≤ ps.length
        · have c : (fs.length : Int) < (ps.length : Int) := by omega
          simp [hlt, he, c, outX]
        · have c : ¬ (fs.length : Int) < (ps.length : Int) := by omega
          simp [hlt, c, outX]
end K85

set_option maxRecDepth 100000
set_option maxHeartbeats 4000000
namespace K85
open PySem PySem.Spec PyProof.Rows L2 UH PySem.NumText

/-! ### the law's own reading of a line -/
def sortsD (fs : List Nat) : List D := fs.map fun f => .str (sortOf f)
def formsD : List (Key × D) := [(.inr "hear", .lst (sortsD [0, 1])), (.inr "do", .lst (sortsD [2, 2, 0])), (.inr "tell", .lst (sortsD [2, 2, 0]))]
theorem dget_eq (k : Str) (fs : List Nat) (h : kindsOf k = some fs) : opDGet (.dic formsD) (.str k) = some (.lst (sortsD fs)) ∧ fs.length ≤ 3 := by
  unfold kindsOf at h
  split at h
  · rename_i e; subst e; cases h; exact ⟨rfl, by decide⟩
  · split at h
    · rename_i e; subst e; cases h; exact ⟨rfl, by decide⟩
    · split at h
      · rename_i e; subst e; cases h; exact ⟨rfl, by decide⟩
      · cases h
theorem din_eq (k : Str) : opDIn true (.str k) (.dic formsD) = some (.bl (kindsOf k).isNone) := by
  by_cases h1 : k = "hear"
  · subst h1; rfl
  · by_cases h2 : k = "do"
    · subst h2; rfl
    · by_cases h3 : k = "tell"
      · subst h3; rfl
      · have e : valD formsD (.inr k) = none := by
          unfold valD formsD
          simp [List.find?_cons, Ne.symm h1, Ne.symm h2, Ne.symm h3]
        show some (D.bl (!(valD formsD (.inr k)).isSome)) = _
        rw [e]
        simp [kindsOf, h1, h2, h3]
theorem atI_next {xs : List D} {a : D} {i : Nat} : atI (a :: xs) ((i : Int) + 1) = xs[i]? := by
  unfold atI ixN
  have h0 : (0 : Int) ≤ (i : Int) + 1 := by omega
  rw [if_pos h0]
  by_cases h : i < xs.length
  · have c : (i : Int) + 1 < ((a :: xs).length : Nat) := by rw [List.length_cons]; omega
    rw [if_pos c]
    have e : ((i : Int) + 1).toNat = i + 1 := by omega
    rw [e]
    rfl
  · have c : ¬ (i : Int) + 1 < ((a :: xs).length : Nat) := by rw [List.length_cons]; omega
    rw [if_neg c, List.getElem?_eq_none (by omega)]
    rfl
def loopB : MS := (msSeq (msSet 7 (mIf (mtE (m2 opLt (m2 opAddL (mVar 5) (mC (.int 1))) (mCB fLen (maCons (mVar 3) maNil)))) (mCall 2 f__law_parsed_part (maCons (mVar 6) (maCons (m2 opIx (mVar 3) (m2 opAddL (mVar 5) (mC (.int 1)))) maNil))) (mN (mLst maNil))))
  (msSeq (msIf (mtE (m2 opEq (mVar 7) (mN (mLst maNil)))) (msRet (mTup (maCons (mC (.str "NoText")) (maCons (mVar 1) (maCons (m2 opAddL (mVar 5) (mC (.int 1))) maNil))))) msNil)
  (msApp 4 (m2 opIx (mVar 7) (mC (.int 0))))))
theorem toList_ok (f : Nat) (p : Str) : (D.lst (rd f p).toList).ok = true := flat_ok fun d hd => by
  cases h : rd f p with
  | none => rw [h] at hd; cases hd
  | some e => rw [h] at hd; cases (List.mem_singleton.mp hd); exact (rd_flat h).1
theorem loopX (x k : Str) (n : Int) (ps : List Str) (s : Bxs) (hp : ps.length + 1 ≤ sizeLine) : ∀ (fs : List Nat) (i : Nat) (found : List D) (e5 e6 e7 : Sl), found.length + fs.length ≤ 1000 →
    ∃ e5' e6' e7', forLoop (tgT 2 (tgCons (tgN 5) (tgCons (tgN 6) tgNil))) loopB [.val (.str x), .val (.int n), .val (.dic formsD), .val (.lst (.str k :: ps.map .str)), .own found, e5, e6, e7] (((sortsD fs).zipIdx i).map fun p => .tup [.int (p.2 : Int), p.1]) s =
      match walk fs (ps.drop i) i with
      | .inl j => .ok (.ret (.tup [.str "NoText", .int n, .int ((j : Int) + 1)])) s
      | .inr ds => .ok (.next [.val (.str x), .val (.int n), .val (.dic formsD), .val (.lst (.str k :: ps.map .str)), .own (found ++ ds), e5', e6', e7']) s
  | [], i, found, e5, e6, e7, _ => ⟨e5, e6, e7, by
      show R.ok _ s = _
      rw [show walk [] (ps.drop i) i = .inr [] from rfl]
      show R.ok _ s = R.ok _ s
      rw [List.append_nil]⟩
  | f :: fs, i, found, e5, e6, e7, hl => by
    have e0 : (((sortsD (f :: fs)).zipIdx i).map fun p => D.tup [.int (p.2 : Int), p.1]) = .tup [.int (i : Int), .str (sortOf f)] :: (((sortsD fs).zipIdx (i + 1)).map fun p => .tup [.int (p.2 : Int), p.1]) := rfl
    rw [e0]
    have hl' : found.length < sizeLine := by rw [sizeLine_eq]; rw [List.length_cons] at hl; omega
    have et : tgT 2 (tgCons (tgN 5) (tgCons (tgN 6) tgNil)) (D.tup [.int (i : Int), .str (sortOf f)]) [.val (.str x), .val (.int n), .val (.dic formsD), .val (.lst (.str k :: ps.map .str)), .own found, e5, e6, e7] =
      some [.val (.str x), .val (.int n), .val (.dic formsD), .val (.lst (.str k :: ps.map .str)), .own found, .val (.int (i : Int)), .val (.str (sortOf f)), e7] := rfl
    unfold forLoop
    rw [et]
    dsimp only
    by_cases hi : i < ps.length
    · have ed : ps.drop i = ps[i] :: ps.drop (i + 1) := List.drop_eq_getElem_cons hi
      have eix : opIx (.lst (.str k :: ps.map .str)) (.int ((i : Int) + 1)) = some (.str ps[i]) := by
        show atI _ _ = _
        rw [atI_next, List.getElem?_map, List.getElem?_eq_getElem hi] <;> rfl
      have c : decide ((i : Int) + 1 < ((ps.length + 1 : Nat) : Int)) = true := decide_eq_true (by omega)
      rw [ed]
      unfold walk
      cases hr : rd f ps[i] with
      | none =>
        refine ⟨e5, e6, e7, ?_⟩
        have en : opEq (.lst []) (.lst []) = some (.bl true) := rfl
        unfold loopB
        simp only [mDef, mDefN, env0, List.map_cons, List.map_nil, List.replicate, List.cons_append, List.nil_append, Nat.reduceSub, msSeq, msIf, msRet, msNil, msSet, msRetN, mVar, mVarW, mC, m1, m2, m2S, m2N, mtE, mtNot, mtOr, mtAnd, mAnd, mOr, mNot, mIf, mN, mTup, mLst, mCB, mCN, maCons, maNil, mCall, mCallN, arity, mSl, moN, moS, mLc, miSeq, R.bind_ok, R.bind_exc, R.bind_bad, R.ofO_some, R.ofO_none, List.getElem?_cons_zero, List.getElem?_cons_succ, List.set_cons_zero, List.set_cons_succ, List.length_cons, List.length_nil, Nat.reduceAdd, Nat.zero_add, if_true, reduceIte, asB, asI, Bool.true_eq_false, Bool.false_eq_true, if_false, Bool.not_true, Bool.not_false, Option.bind_some, Option.map_some, Nat.reduceLeDiff, Nat.zero_le, opAddL, opAdd, fLen, opLt, List.length_map, c, eix, parsed, hr, en, Option.toList, List.isEmpty_nil]
      | some d =>
        obtain ⟨a5, a6, a7, ih⟩ := loopX x k n ps s hp fs (i + 1) (found ++ [d]) (.val (.int (i : Int))) (.val (.str (sortOf f))) (.val (.lst [d])) (by rw [List.length_append, List.length_singleton]; rw [List.length_cons] at hl; omega)
        refine ⟨a5, a6, a7, ?_⟩
        have i0 : opIx (.lst [d]) (.int 0) = some d := rfl
        have ok1 : (D.lst [d]).ok = true := flat_ok fun e he => by cases (List.mem_singleton.mp he); exact (rd_flat hr).1
        have hb : loopB [.val (.str x), .val (.int n), .val (.dic formsD), .val (.lst (.str k :: ps.map .str)), .own found, .val (.int (i : Int)), .val (.str (sortOf f)), e7] s =
            .ok (.next [.val (.str x), .val (.int n), .val (.dic formsD), .val (.lst (.str k :: ps.map .str)), .own (found ++ [d]), .val (.int (i : Int)), .val (.str (sortOf f)), .val (.lst [d])]) s := by
          unfold loopB
          simp only [mDef, mDefN, env0, List.map_cons, List.map_nil, List.replicate, List.cons_append, List.nil_append, Nat.reduceSub, msSeq, msIf, msRet, msNil, msSet, msRetN, mVar, mVarW, mC, m1, m2, m2S, m2N, mtE, mtNot, mtOr, mtAnd, mAnd, mOr, mNot, mIf, mN, mTup, mLst, mCB, mCN, maCons, maNil, mCall, mCallN, arity, mSl, moN, moS, mLc, miSeq, R.bind_ok, R.bind_exc, R.bind_bad, R.ofO_some, R.ofO_none, List.getElem?_cons_zero, List.getElem?_cons_succ, List.set_cons_zero, List.set_cons_succ, List.length_cons, List.length_nil, Nat.reduceAdd, Nat.zero_add, if_true, reduceIte, asB, asI, Bool.true_eq_false, Bool.false_eq_true, if_false, Bool.not_true, Bool.not_false, Option.bind_some, Option.map_some, Nat.reduceLeDiff, Nat.zero_le, opAddL, opAdd, fLen, opLt, List.length_map, c, eix, parsed, hr, Option.toList, eq_nil _ ok1, List.isEmpty_cons, msApp, i0, hl']
        rw [hb, R.bind_ok]
        dsimp only
        rw [ih]
        cases walk fs (ps.drop (i + 1)) (i + 1) with
        | inl j => rfl
        | inr ds => simp
    · have ed : ps.drop i = [] := List.drop_eq_nil_of_le (by omega)
      have c : decide ((i : Int) + 1 < ((ps.length + 1 : Nat) : Int)) = false := decide_eq_false (by omega)
      rw [ed]
      refine ⟨e5, e6, e7, ?_⟩
      have en : opEq (.lst []) (.lst []) = some (.bl true) := rfl
      unfold loopB
      simp only [mDef, mDefN, env0, List.map_cons, List.map_nil, List.replicate, List.cons_append, List.nil_append, Nat.reduceSub, msSeq, msIf, msRet, msNil, msSet, msRetN, mVar, mVarW, mC, m1, m2, m2S, m2N, mtE, mtNot, mtOr, mtAnd, mAnd, mOr, mNot, mIf, mN, mTup, mLst, mCB, mCN, maCons, maNil, mCall, mCallN, arity, mSl, moN, moS, mLc, miSeq, R.bind_ok, R.bind_exc, R.bind_bad, R.ofO_some, R.ofO_none, List.getElem?_cons_zero, List.getElem?_cons_succ, List.set_cons_zero, List.set_cons_succ, List.length_cons, List.length_nil, Nat.reduceAdd, Nat.zero_add, if_true, reduceIte, asB, asI, Bool.true_eq_false, Bool.false_eq_true, if_false, Bool.not_true, Bool.not_false, Option.bind_some, Option.map_some, Nat.reduceLeDiff, Nat.zero_le, opAddL, opAdd, fLen, opLt, List.length_map, c, en, walk]
end K85

set_option maxRecDepth 100000
set_option maxHeartbeats 4000000
namespace K85
open PySem PySem.Spec PyProof.Rows L2 UH PySem.NumText

theorem walk_ok : ∀ (fs : List Nat) (ps : List Str) (i : Nat) (ds : List D), walk fs ps i = .inr ds → ds.length = fs.length ∧ fs.length ≤ ps.length ∧ ∀ d ∈ ds, flatD d
  | [], ps, i, ds, h => by
    cases h
    exact ⟨rfl, Nat.zero_le _, fun d hd => by cases hd⟩
  | f :: fs, [], i, ds, h => by cases h
  | f :: fs, p :: ps, i, ds, h => by
    unfold walk at h
    cases hr : rd f p with
    | none => rw [hr] at h; cases h
    | some d =>
      rw [hr] at h
      cases hw : walk fs ps (i + 1) with
      | inl j => rw [hw] at h; cases h
      | inr es =>
        rw [hw] at h
        cases h
        obtain ⟨h1, h2, h3⟩ := walk_ok fs ps (i + 1) es hw
        refine ⟨by rw [List.length_cons, List.length_cons, h1], by rw [List.length_cons, List.length_cons]; omega, fun e he => ?_⟩
        rcases List.mem_cons.mp he with rfl | he
        · exact (rd_flat hr).1
        · exact h3 e he
def outE (n : Int) : Nat ⊕ List D → D
  | .inl w => .tup [.str "NoText", .int n, .int w]
  | .inr ds => .tup [.str "returned", .tup ds]
theorem opGt_int (i j : Int) : opGt (.int i) (.int j) = some (.bl (decide (j < i))) := rfl
theorem atI_zero {xs : List D} {a : D} : atI (a :: xs) 0 = some a := by
  unfold atI ixN
  simp
def forX : MS := msFor (miEnum (maCons (m2 opDGet (mVar 2) (m2 opIx (mVar 3) (mC (.int 0)))) maNil)) (tgT 2 (tgCons (tgN 5) (tgCons (tgN 6) tgNil))) loopB
def dicX : ME := mDic [((mC (.str "hear")), (mN (mLst (maCons (mC (.str "count")) (maCons (mC (.str "spell")) maNil))))), ((mC (.str "do")), (mN (mLst (maCons (mC (.str "who")) (maCons (mC (.str "who")) (maCons (mC (.str "count")) maNil)))))), ((mC (.str "tell")), (mN (mLst (maCons (mC (.str "who")) (maCons (mC (.str "who")) (maCons (mC (.str "count")) maNil))))))]
theorem dicX_eq (env : En) (s : Bxs) : dicX env s = .ok (.dic formsD) s := rfl
theorem em_expected : m__law_expected_line = (msSeq (msSet 2 dicX)
  (msSeq (msParN 3 4 (mN (m2N opSplit (asStr (mVar 0)) (mC (.str " ")))) (mLst maNil))
  (msSeq (msIf (mtE (m2 (opDIn true) (m2 opIx (mVar 3) (mC (.int 0))) (mVar 2))) (msRet (mTup (maCons (mC (.str "NoText")) (maCons (mVar 1) (maCons (mC (.int 0)) maNil))))) msNil)
  (msSeq forX
  (msSeq (msIf (mtE (m2 opGt (mCB fLen (maCons (mVar 3) maNil)) (m2 opAddL (mCB fLen (maCons (mVarW 4) maNil)) (mC (.int 1))))) (msRet (mTup (maCons (mC (.str "NoText")) (maCons (mVar 1) (maCons (m2 opAddL (mCB fLen (maCons (mVarW 4) maNil)) (mC (.int 1))) maNil))))) msNil)
  (msRet (mTup (maCons (mC (.str "returned")) (maCons (m2 opAddL (mTup (maCons (m2 opIx (mVar 3) (mC (.int 0))) maNil)) (mCB fTup (maCons (mVarW 4) maNil))) maNil)))))))))  := rfl
theorem expected (x : Str) (n : Int) (s : Bxs) (hx : x.length + 2 ≤ sizeLine) : f__law_expected_line [.str x, .int n] s = .ok (outE n (readL x)) s := by
  obtain ⟨k, ps, hs⟩ := split_ne x
  have hp : ps.length + 1 ≤ sizeLine := by
    have := PyProof.Rows.split_le x " "
    rw [hs, List.length_cons] at this
    omega
  unfold f__law_expected_line readL
  rw [em_expected, hs]
  have i0 : opIx (.lst (.str k :: ps.map .str)) (.int 0) = some (.str k) := atI_zero
  simp only [mDef, mDefN, env0, List.map_cons, List.map_nil, List.replicate, List.cons_append, List.nil_append, Nat.reduceSub, msSeq, msIf, msRet, msNil, msSet, msRetN, mVar, mVarW, mC, m1, m2, m2S, m2N, mtE, mtNot, mtOr, mtAnd, mAnd, mOr, mNot, mIf, mN, mTup, mLst, mCB, mCN, maCons, maNil, mCall, mCallN, arity, mSl, moN, moS, mLc, miSeq, R.bind_ok, R.bind_exc, R.bind_bad, R.ofO_some, R.ofO_none, List.getElem?_cons_zero, List.getElem?_cons_succ, List.set_cons_zero, List.set_cons_succ, List.length_cons, List.length_nil, Nat.reduceAdd, Nat.zero_add, if_true, reduceIte, asB, asI, Bool.true_eq_false, Bool.false_eq_true, if_false, Bool.not_true, Bool.not_false, Option.bind_some, Option.map_some, Nat.reduceLeDiff, Nat.zero_le, dicX_eq, msParN, asStr, split_op x hx, hs, i0, din_eq]
  cases hk : kindsOf k with
  | none =>
    simp only [mDef, mDefN, env0, List.map_cons, List.map_nil, List.replicate, List.cons_append, List.nil_append, Nat.reduceSub, msSeq, msIf, msRet, msNil, msSet, msRetN, mVar, mVarW, mC, m1, m2, m2S, m2N, mtE, mtNot, mtOr, mtAnd, mAnd, mOr, mNot, mIf, mN, mTup, mLst, mCB, mCN, maCons, maNil, mCall, mCallN, arity, mSl, moN, moS, mLc, miSeq, R.bind_ok, R.bind_exc, R.bind_bad, R.ofO_some, R.ofO_none, List.getElem?_cons_zero, List.getElem?_cons_succ, List.set_cons_zero, List.set_cons_succ, List.length_cons, List.length_nil, Nat.reduceAdd, Nat.zero_add, if_true, reduceIte, asB, asI, Bool.true_eq_false, Bool.false_eq_true, if_false, Bool.not_true, Bool.not_false, Option.bind_some, Option.map_some, Nat.reduceLeDiff, Nat.zero_le, Option.isNone_none]
    rfl
  | some fs =>
    obtain ⟨hg, h3⟩ := dget_eq k fs hk
    obtain ⟨a5, a6, a7, hl⟩ := loopX x k n ps s hp fs 0 [] .none .none .none (by rw [List.length_nil]; omega)
    rw [List.drop_zero] at hl
    have hF : forX [.val (.str x), .val (.int n), .val (.dic formsD), .val (.lst (.str k :: ps.map .str)), .own [], .none, .none, .none] s = (match walk fs ps 0 with
      | .inl j => .ok (.ret (.tup [.str "NoText", .int n, .int ((j : Int) + 1)])) s
      | .inr ds => .ok (.next [.val (.str x), .val (.int n), .val (.dic formsD), .val (.lst (.str k :: ps.map .str)), .own ([] ++ ds), a5, a6, a7]) s) := by
      refine Eq.trans ?_ hl
      unfold forX msFor miEnum
      simp only [mDef, mDefN, env0, List.map_cons, List.map_nil, List.replicate, List.cons_append, List.nil_append, Nat.reduceSub, msSeq, msIf, msRet, msNil, msSet, msRetN, mVar, mVarW, mC, m1, m2, m2S, m2N, mtE, mtNot, mtOr, mtAnd, mAnd, mOr, mNot, mIf, mN, mTup, mLst, mCB, mCN, maCons, maNil, mCall, mCallN, arity, mSl, moN, moS, mLc, miSeq, R.bind_ok, R.bind_exc, R.bind_bad, R.ofO_some, R.ofO_none, List.getElem?_cons_zero, List.getElem?_cons_succ, List.set_cons_zero, List.set_cons_succ, List.length_cons, List.length_nil, Nat.reduceAdd, Nat.zero_add, if_true, reduceIte, asB, asI, Bool.true_eq_false, Bool.false_eq_true, if_false, Bool.not_true, Bool.not_false, Option.bind_some, Option.map_some, Nat.reduceLeDiff, Nat.zero_le, fEnum, hg, i0]
      rfl
    simp only [mDef, mDefN, env0, List.map_cons, List.map_nil, List.replicate, List.cons_append, List.nil_append, Nat.reduceSub, msSeq, msIf, msRet, msNil, msSet, msRetN, mVar, mVarW, mC, m1, m2, m2S, m2N, mtE, mtNot, mtOr, mtAnd, mAnd, mOr, mNot, mIf, mN, mTup, mLst, mCB, mCN, maCons, maNil, mCall, mCallN, arity, mSl, moN, moS, mLc, miSeq, R.bind_ok, R.bind_exc, R.bind_bad, R.ofO_some, R.ofO_none, List.getElem?_cons_zero, List.getElem?_cons_succ, List.set_cons_zero, List.set_cons_succ, List.length_cons, List.length_nil, Nat.reduceAdd, Nat.zero_add, if_true, reduceIte, asB, asI, Bool.true_eq_false, Bool.false_eq_true, if_false, Bool.not_true, Bool.not_false, Option.bind_some, Option.map_some, Nat.reduceLeDiff, Nat.zero_le, Option.isNone_some, hF]
    cases hw : walk fs ps 0 with
    | inl j => simp only [mDef, mDefN, env0, List.map_cons, List.map_nil, List.replicate, List.cons_append, List.nil_append, Nat.reduceSub, msSeq, msIf, msRet, msNil, msSet, msRetN, mVar, mVarW, mC, m1, m2, m2S, m2N, mtE, mtNot, mtOr, mtAnd, mAnd, mOr, mNot, mIf, mN, mTup, mLst, mCB, mCN, maCons, maNil, mCall, mCallN, arity, mSl, moN, moS, mLc, miSeq, R.bind_ok, R.bind_exc, R.bind_bad, R.ofO_some, R.ofO_none, List.getElem?_cons_zero, List.getElem?_cons_succ, List.set_cons_zero, List.set_cons_succ, List.length_cons, List.length_nil, Nat.reduceAdd, Nat.zero_add, if_true, reduceIte, asB, asI, Bool.true_eq_false, Bool.false_eq_true, if_false, Bool.not_true, Bool.not_false, Option.bind_some, Option.map_some, Nat.reduceLeDiff, Nat.zero_le]; simp [outE]
    | inr ds =>
      obtain ⟨w1, w2, w3⟩ := walk_ok _ _ _ _ hw
      have l4 : 1 + ds.length ≤ sizeLine := by rw [sizeLine_eq]; omega
      simp only [mDef, mDefN, env0, List.map_cons, List.map_nil, List.replicate, List.cons_append, List.nil_append, Nat.reduceSub, msSeq, msIf, msRet, msNil, msSet, msRetN, mVar, mVarW, mC, m1, m2, m2S, m2N, mtE, mtNot, mtOr, mtAnd, mAnd, mOr, mNot, mIf, mN, mTup, mLst, mCB, mCN, maCons, maNil, mCall, mCallN, arity, mSl, moN, moS, mLc, miSeq, R.bind_ok, R.bind_exc, R.bind_bad, R.ofO_some, R.ofO_none, List.getElem?_cons_zero, List.getElem?_cons_succ, List.set_cons_zero, List.set_cons_succ, List.length_cons, List.length_nil, Nat.reduceAdd, Nat.zero_add, if_true, reduceIte, asB, asI, Bool.true_eq_false, Bool.false_eq_true, if_false, Bool.not_true, Bool.not_false, Option.bind_some, Option.map_some, Nat.reduceLeDiff, Nat.zero_le, fLen, opAddL, opAdd, opGt_int, List.length_map]
      by_cases he : ps.length = fs.length
      · have c : decide ((ds.length : Int) + 1 < ((fs.length + 1 : Nat) : Int)) = false := decide_eq_false (by omega)
        simp only [mDef, mDefN, env0, List.map_cons, List.map_nil, List.replicate, List.cons_append, List.nil_append, Nat.reduceSub, msSeq, msIf, msRet, msNil, msSet, msRetN, mVar, mVarW, mC, m1, m2, m2S, m2N, mtE, mtNot, mtOr, mtAnd, mAnd, mOr, mNot, mIf, mN, mTup, mLst, mCB, mCN, maCons, maNil, mCall, mCallN, arity, mSl, moN, moS, mLc, miSeq, R.bind_ok, R.bind_exc, R.bind_bad, R.ofO_some, R.ofO_none, List.getElem?_cons_zero, List.getElem?_cons_succ, List.set_cons_zero, List.set_cons_succ, List.length_cons, List.length_nil, Nat.reduceAdd, Nat.zero_add, if_true, reduceIte, asB, asI, Bool.true_eq_false, Bool.false_eq_true, if_false, Bool.not_true, Bool.not_false, Option.bind_some, Option.map_some, Nat.reduceLeDiff, Nat.zero_le, c, i0, fTup, l4, he]
        rfl
      · have c : decide ((ds.length : Int) + 1 < ((ps.length + 1 : Nat) : Int)) = true := decide_eq_true (by omega)
        simp only [mDef, mDefN, env0, List.map_cons, List.map_nil, List.replicate, List.cons_append, List.nil_append, Nat.reduceSub, msSeq, msIf, msRet, msNil, msSet, msRetN, mVar, mVarW, mC, m1, m2, m2S, m2N, mtE, mtNot, mtOr, mtAnd, mAnd, mOr, mNot, mIf, mN, mTup, mLst, mCB, mCN, maCons, maNil, mCall, mCallN, arity, mSl, moN, moS, mLc, miSeq, R.bind_ok, R.bind_exc, R.bind_bad, R.ofO_some, R.ofO_none, List.getElem?_cons_zero, List.getElem?_cons_succ, List.set_cons_zero, List.set_cons_succ, List.length_cons, List.length_nil, Nat.reduceAdd, Nat.zero_add, if_true, reduceIte, asB, asI, Bool.true_eq_false, Bool.false_eq_true, if_false, Bool.not_true, Bool.not_false, Option.bind_some, Option.map_some, Nat.reduceLeDiff, Nat.zero_le, c, he]
        simp [outE, w1]
end K85

set_option maxRecDepth 100000
set_option maxHeartbeats 4000000
namespace K85
open PySem PySem.Spec PyProof.Rows L2 UH PySem.NumText

/-! ### values whose repr is short -/
/-- plain, depth at most k, bulk at most B, its leaves short -/
structure Sm (k B : Nat) (d : D) : Prop where
  pl : d.pl = true
  sh : d.toP.showable = true
  lv : d.toP.leavesShort 64 = true
  dp : d.toP.depth ≤ k
  bk : d.toP.bulk ≤ B
theorem Sm.ok {k B : Nat} {d : D} (h : Sm k B d) (hk : k ≤ 60) : d.ok = true := by
  unfold D.ok
  rw [h.pl, Bool.true_and]
  exact decide_eq_true (Nat.le_trans h.dp hk)
theorem Sm.mono {k B k' B' : Nat} {d : D} (h : Sm k B d) (hk : k ≤ k') (hB : B ≤ B') : Sm k' B' d := ⟨h.pl, h.sh, h.lv, Nat.le_trans h.dp hk, Nat.le_trans h.bk hB⟩
theorem Sm.repr {k B : Nat} {d : D} (h : Sm k B d) (hk : k ≤ 60) (hB : B ≤ 250000) : fRepr [d] = some (.str d.toP.shown) := by
  have l := PyData.shown_le_bulk 64 (by decide) d.toP h.lv
  have b := h.bk
  have c : (d.pl && d.toP.showable && decide (d.toP.depth ≤ 60) && decide (d.toP.shown.length ≤ sizeLine)) = true := by
    rw [h.pl, h.sh, decide_eq_true (Nat.le_trans h.dp hk), decide_eq_true (show d.toP.shown.length ≤ sizeLine from by rw [sizeLine_eq]; omega)]
    rfl
  show (if _ then _ else _) = _
  rw [if_pos c]
theorem ne_self (x : Str) : opNe (.str x) (.str x) = some (.bl false) := by
  rw [ne_str]
  have e : (D.str x).eqv (.str x) = true := by show (x == x) = true; simp
  rw [e]
  rfl
theorem sms {k B : Nat} : ∀ {ds : List D}, (∀ d ∈ ds, Sm k B d) → D.pls ds = true ∧ PyData.showableAll (D.toPs ds) = true ∧ PyData.leavesShortAll 64 (D.toPs ds) = true ∧ PyData.depthAll (D.toPs ds) ≤ k ∧ PyData.bulkAll (D.toPs ds) ≤ ds.length * (B + 1)
  | [], _ => ⟨rfl, rfl, rfl, Nat.zero_le _, Nat.zero_le _⟩
  | d :: r, h => by
    have a := h d List.mem_cons_self
    obtain ⟨h1, h2, h3, h4, h5⟩ := sms fun x hx => h x (List.mem_cons_of_mem _ hx)
    refine ⟨?_, ?_, ?_, ?_, ?_⟩
    · show (D.pl d && D.pls r) = true
      rw [a.pl, h1] <;> rfl
    · show (d.toP.showable && PyData.showableAll (D.toPs r)) = true
      rw [a.sh, h2] <;> rfl
    · show (d.toP.leavesShort 64 && PyData.leavesShortAll 64 (D.toPs r)) = true
      rw [a.lv, h3] <;> rfl
    · show max d.toP.depth (PyData.depthAll (D.toPs r)) ≤ k
      have := a.dp
      omega
    · show d.toP.bulk + 1 + PyData.bulkAll (D.toPs r) ≤ (r.length + 1) * (B + 1)
      have := a.bk
      rw [Nat.succ_mul]
      omega
theorem Sm.tup {k B m : Nat} {ds : List D} (h : ∀ d ∈ ds, Sm k B d) (hm : ds.length ≤ m) : Sm (k + 1) (m * (B + 1)) (.tup ds) := by
  obtain ⟨h1, h2, h3, h4, h5⟩ := sms h
  refine ⟨h1, h2, h3, ?_, ?_⟩
  · show PyData.depthAll (D.toPs ds) + 1 ≤ k + 1
    omega
  · show PyData.bulkAll (D.toPs ds) ≤ _
    exact Nat.le_trans h5 (Nat.mul_le_mul_right _ hm)
theorem Sm.lst {k B m : Nat} {ds : List D} (h : ∀ d ∈ ds, Sm k B d) (hm : ds.length ≤ m) : Sm (k + 1) (m * (B + 1)) (.lst ds) := by
  obtain ⟨h1, h2, h3, h4, h5⟩ := sms h
  refine ⟨h1, h2, h3, ?_, ?_⟩
  · show PyData.depthAll (D.toPs ds) + 1 ≤ k + 1
    omega
  · show PyData.bulkAll (D.toPs ds) ≤ _
    exact Nat.le_trans h5 (Nat.mul_le_mul_right _ hm)
theorem Sm.int {n : Nat} (h : n < 10 ^ 60) : Sm 0 0 (.int (n : Int)) := by
  refine ⟨rfl, ?_, ?_, Nat.le_refl _, Nat.le_refl _⟩
  · show decide ((n : Int).natAbs.log2 < 1920) = true
    refine decide_eq_true ?_
    rw [Int.natAbs_natCast]
    by_cases h0 : n = 0
    · subst h0; decide
    · exact (Nat.log2_lt h0).mpr (Nat.lt_trans h (by decide))
  · show decide ((PyData.shown (.int (n : Int))).length ≤ 64) = true
    refine decide_eq_true ?_
    rw [PyData.shown_int]
    have e : (toString (n : Int) : String) = Nat.repr n := rfl
    rw [e]
    have l := (Nat.length_repr_le_iff (n := n) (by decide : 0 < 60)).mpr h
    have e2 : (Str.ofString (Nat.repr n)).length = (Nat.repr n).length := by
      show (Str.ofString (Nat.repr n)).cps.size = _
      rw [← String.length_toList (s := Nat.repr n), Nat.toList_repr]
      simp [Str.ofString, cpsOfBytes_string]
    show (Str.ofString (Nat.repr n)).length ≤ 64
    omega
theorem Sm.str {B : Nat} {x : Str} (h : x.length ≤ B) (hc : ∀ c ∈ x.cps.toList, c < 16 ^ 8) : Sm 0 B (.str x) := by
  refine ⟨rfl, rfl, ?_, Nat.le_refl _, h⟩
  show (x.cps.toList.all fun c => decide (c < 16 ^ 8)) = true
  exact List.all_eq_true.mpr fun c hm => decide_eq_true (hc c hm)
theorem inL_letter {c : Nat} (h : inL "abcdefghijklmnopqrstuvwxyz" c = true) : c < 16 ^ 8 := by
  unfold inL inStr at h
  have e := PySem.StrLaws.found_one (Str.ofString "abcdefghijklmnopqrstuvwxyz") c
  have h : (!(Builtin.Str.occurrences (Str.ofString "abcdefghijklmnopqrstuvwxyz") ⟨#[c]⟩ 0 (Str.ofString "abcdefghijklmnopqrstuvwxyz").length 1).isEmpty) = true := h
  rw [e] at h
  have h := of_decide_eq_true h
  have q : ((Str.ofString "abcdefghijklmnopqrstuvwxyz").cps.toList.all fun c => decide (c < 16 ^ 8)) = true := by decide +kernel
  exact of_decide_eq_true (List.all_eq_true.mp q c h)
theorem Sm.rd {f : Nat} {p : Str} {d : D} (h : rd f p = some d) : Sm 0 8 d := by
  have let' : ∀ {m : Int} {q : Str}, m ≤ 8 → letR m q = some q → Sm 0 8 (.str q) := fun {m q} hm e => by
    unfold letR at e
    split at e
    · rename_i c
      unfold isLet at c
      rw [Bool.and_eq_true] at c
      have c1 := of_decide_eq_true c.1
      exact Sm.str (by omega) fun x hx => inL_letter (List.all_eq_true.mp c.2 x hx)
    · cases e
  have same : ∀ {m : Int} {q r : Str}, letR m q = some r → r = q := fun {m q r} e => by
    unfold letR at e
    split at e
    · cases e; rfl
    · cases e
  match f with
  | 0 =>
    have h : (numR p).map D.int = some d := h
    cases e : numR p with
    | none => rw [e] at h; cases h
    | some n =>
      rw [e] at h
      cases h
      unfold numR at e
      split at e
      · rename_i c
        rw [Bool.and_eq_true] at c
        obtain ⟨m, e1, e2, _⟩ := num_some c.1
        rw [e1] at e
        cases e
        exact (Sm.int e2).mono (Nat.le_refl _) (by decide)
      · cases e
  | 1 =>
    have h : (letR 4 p).map D.str = some d := h
    cases e : letR 4 p with
    | none => rw [e] at h; cases h
    | some n => rw [e] at h; cases h; have := same e; subst this; exact let' (by decide) e
  | n + 2 =>
    have h : (letR 8 p).map D.str = some d := h
    cases e : letR 8 p with
    | none => rw [e] at h; cases h
    | some n => rw [e] at h; cases h; have := same e; subst this; exact let' (by decide) e
theorem walk_sm : ∀ (fs : List Nat) (ps : List Str) (i : Nat), match walk fs ps i with
    | .inl j => j ≤ i + fs.length
    | .inr ds => ∀ d ∈ ds, Sm 0 8 d
  | [], ps, i => fun d hd => by cases hd
  | f :: fs, [], i => by show i ≤ i + (fs.length + 1); omega
  | f :: fs, p :: ps, i => by
    unfold walk
    cases hr : K85.rd f p with
    | none => show i ≤ i + (fs.length + 1); omega
    | some d =>
      have ih := walk_sm fs ps (i + 1)
      revert ih
      cases walk fs ps (i + 1) with
      | inl j => intro ih; have ih : j ≤ i + 1 + fs.length := ih; show j ≤ i + (fs.length + 1); omega
      | inr ds =>
        intro ih e he
        rcases List.mem_cons.mp he with rfl | he
        · exact Sm.rd hr
        · exact ih e he
theorem Sm.lit {B : Nat} {z : String} (h : (Str.ofString z).length ≤ B) (hc : (Str.ofString z).cps.toList.all (fun c => decide (c < 16 ^ 8)) = true) : Sm 0 B (.str z) := Sm.str h fun c hm => of_decide_eq_true (List.all_eq_true.mp hc c hm)
theorem readL_sm (x : Str) : match readL x with
    | .inl w => w ≤ 5
    | .inr ds => (∀ d ∈ ds, Sm 0 8 d) ∧ ds.length ≤ 4 := by
  unfold readL
  cases Txt.split x " " with
  | nil => show 0 ≤ 5; decide
  | cons k ps =>
    dsimp only
    cases hk : kindsOf k with
    | none => show 0 ≤ 5; decide
    | some fs =>
      dsimp only
      obtain ⟨_, _, h3⟩ := kget_eq k fs hk
      have hw := walk_sm fs ps 0
      have hk' : Sm 0 8 (.str k) := by
        unfold kindsOf at hk
        split at hk
        · rename_i e; subst e; exact Sm.lit (by decide) (by decide)
        · split at hk
          · rename_i e; subst e; exact Sm.lit (by decide) (by decide)
          · split at hk
            · rename_i e; subst e; exact Sm.lit (by decide) (by decide)
            · cases hk
      cases hq : walk fs ps 0 with
      | inl j => rw [hq] at hw; have hw : j ≤ 0 + fs.length := hw; show j + 1 ≤ 5; omega
      | inr ds =>
        rw [hq] at hw
        obtain ⟨h1, h2, _⟩ := walk_ok _ _ _ _ hq
        dsimp only
        by_cases he : ps.length = fs.length
        · rw [if_pos he]
          refine ⟨fun d hd => ?_, by rw [List.length_cons]; omega⟩
          rcases List.mem_cons.mp hd with rfl | hd
          · exact hk'
          · exact hw d hd
        · rw [if_neg he]
          show fs.length + 1 ≤ 5
          omega
theorem outE_sm (n : Nat) (hn : n < 10 ^ 6) (x : Str) : Sm 2 200 (outE (n : Int) (readL x)) := by
  have h := readL_sm x
  revert h
  cases readL x with
  | inl w =>
    intro h
    have h : w ≤ 5 := h
    refine ((Sm.tup (k := 0) (B := 8) (m := 3) (fun d hd => ?_) (Nat.le_refl _)).mono (by decide) (by decide) : Sm 2 200 (.tup [.str "NoText", .int (n : Int), .int (w : Int)]))
    simp only [List.mem_cons, List.not_mem_nil, or_false] at hd
    rcases hd with rfl | rfl | rfl
    · exact Sm.lit (by decide) (by decide)
    · exact (Sm.int (Nat.lt_trans hn (by decide))).mono (by decide) (by decide)
    · exact (Sm.int (Nat.lt_of_le_of_lt h (by decide))).mono (by decide) (by decide)
  | inr ds =>
    intro h
    refine ((Sm.tup (k := 1) (B := 36) (m := 2) (fun d hd => ?_) (Nat.le_refl _)).mono (by decide) (by decide) : Sm 2 200 (.tup [.str "returned", .tup ds]))
    simp only [List.mem_cons, List.not_mem_nil, or_false] at hd
    rcases hd with rfl | rfl
    · exact (Sm.lit (B := 8) (by decide) (by decide)).mono (by decide) (by decide)
    · exact (Sm.tup h.1 h.2).mono (by decide) (by decide)
end K85

set_option maxRecDepth 100000
set_option maxHeartbeats 4000000
namespace K85
open PySem PySem.Spec PyProof.Rows L2 UH PySem.NumText

/-! ### the drawing -/
def rg (ns : List Int) (a r c : Int) : Bxs := [.lst [.lst (ns.map .int), .int a, .int r, .int c]]
/-- the source, drawn from at most n times -/
def Rg (n : Nat) (s : Bxs) : Prop := ∃ (ns : List Int) (a r : Int) (c : Nat), s = rg ns a r (c : Int) ∧ 0 ≤ a ∧ c ≤ n
theorem ixS0 (ns : List Int) (a r c : Int) : opIxS (rg ns a r c) (.obj 0) (.int 0) = some (.lst (ns.map .int)) := rfl
theorem ixS1 (ns : List Int) (a r c : Int) : opIxS (rg ns a r c) (.obj 0) (.int 1) = some (.int a) := rfl
theorem ixS2 (ns : List Int) (a r c : Int) : opIxS (rg ns a r c) (.obj 0) (.int 2) = some (.int r) := rfl
theorem ixS3 (ns : List Int) (a r c : Int) : opIxS (rg ns a r c) (.obj 0) (.int 3) = some (.int c) := rfl
theorem set3 {env : En} {s : Bxs} {mk m : ME} {ns : List Int} {a r c v : Int} {s' : Bxs} (h : env[0]? = some (.val (.obj 0))) (hm : m env s = .ok (.int v) (rg ns a r c)) (hk : mk env (rg ns a r c) = .ok (.int 3) (rg ns a r c)) : msSetIx 0 mk m env s = .ok (.next env) (rg ns a r v) := by
  unfold msSetIx
  rw [h]
  dsimp only
  rw [hm, R.bind_ok, hk, R.bind_ok]
  rfl
theorem set1 {env : En} {s : Bxs} {mk m : ME} {ns : List Int} {a r c v : Int} (h : env[0]? = some (.val (.obj 0))) (hm : m env s = .ok (.int v) (rg ns a r c)) (hk : mk env (rg ns a r c) = .ok (.int 1) (rg ns a r c)) : msSetIx 0 mk m env s = .ok (.next env) (rg ns v r c) := by
  unfold msSetIx
  rw [h]
  dsimp only
  rw [hm, R.bind_ok, hk, R.bind_ok]
  rfl
theorem set2 {env : En} {s : Bxs} {mk m : ME} {ns : List Int} {a r c v : Int} (h : env[0]? = some (.val (.obj 0))) (hm : m env s = .ok (.int v) (rg ns a r c)) (hk : mk env (rg ns a r c) = .ok (.int 2) (rg ns a r c)) : msSetIx 0 mk m env s = .ok (.next env) (rg ns a v c) := by
  unfold msSetIx
  rw [h]
  dsimp only
  rw [hm, R.bind_ok, hk, R.bind_ok]
  rfl
theorem ints_flat (ns : List Int) : ∀ d ∈ ns.map D.int, flatD d := fun d hd => by
  obtain ⟨i, _, rfl⟩ := List.mem_map.mp hd
  trivial
theorem ne_nil (ds : List D) (h : (D.lst ds).ok = true) : opNe (.lst ds) (.lst []) = some (.bl (!ds.isEmpty)) := by
  unfold opNe
  have e : (D.lst []).ok = true := rfl
  rw [h, e]
  cases ds <;> rfl
def setC3 : MS := (msSetIx 0 (mC (.int 3)) (m2 opAddL (m2S opIxS (mVar 0) (mC (.int 3))) (mC (.int 1))))
def setR2 : MS := (msSetIx 0 (mC (.int 2)) (m2 opFdiv (m2S opIxS (mVar 0) (mC (.int 2))) (mVar 1)))
def setA1 : MS := (msSetIx 0 (mC (.int 1)) (m2 opAddL (mVar 2) (mC (.int 1))))
def setR3 : MS := (msSetIx 0 (mC (.int 2)) (m2 opFdiv (mVar 3) (mVar 1)))
def tailM : MS := (msSeq (msSet 4 (m2 opMod (m2 opPow (m2 opAddL (m2 opAddL (m2 opMod (mVar 3) (mC (.int 2147483549))) (m2 opMulS (mC (.int 60013)) (m2S opIxS (mVar 0) (mC (.int 3))))) (mC (.int 29))) (mC (.int 5))) (mC (.int 2147483587))))
  (msRet (m2 opMod (m2 opFdiv (m2 opMod (m2 opPow (m2 opAddL (mVar 4) (m2 opMulS (mC (.int 9697)) (m2S opIxS (mVar 0) (mC (.int 3))))) (mC (.int 5))) (mC (.int 2147483563))) (mC (.int 64))) (mVar 1))))
def cellM : ME := (mIf (mtE (m2 opNe (m2S opIxS (mVar 0) (mC (.int 0))) (mN (mLst maNil)))) (m2 opIx (m2S opIxS (mVar 0) (mC (.int 0))) (m2 opMod (mVar 2) (mCB fLen (maCons (m2S opIxS (mVar 0) (mC (.int 0))) maNil)))) (mC (.int 7)))
def restM : MS := (msSeq (msIf (mtAnd (mtE (m2 opGe (mVar 3) (m2 opPow (mC (.int 10)) (mC (.int 18))))) (mtE (m2 opLt (mVar 2) (mCB fLen (maCons (m2S opIxS (mVar 0) (mC (.int 0))) maNil))))) (msSeq setR3
  (msRet (m2 opMod (mVar 3) (mVar 1)))) msNil)
  tailM)
theorem em_draw : m__law_draw = (msSeq setC3
  (msSeq (msIf (mtE (m2 opGt (m2S opIxS (mVar 0) (mC (.int 2))) (mC (.int 0)))) (msSeq (msSet 5 (m2 opMod (m2S opIxS (mVar 0) (mC (.int 2))) (mVar 1)))
  (msSeq setR2
  (msRet (mVar 5)))) msNil)
  (msSeq (msSet 2 (m2S opIxS (mVar 0) (mC (.int 1))))
  (msSeq setA1
  (msSeq (msSet 3 cellM)
  restM))))) := rfl
theorem p18 : opPow (.int 10) (.int 18) = some (.int 1000000000000000000) := rfl
theorem mod_int {i j : Int} (h : 0 < j) : opMod (.int i) (.int j) = some (.int (i % j)) := by show (if _ then _ else _) = _; rw [if_pos h]
theorem div_int {i j : Int} (h : 0 < j) (h2 : j < 1073741824) : opFdiv (.int i) (.int j) = some (.int (i / j)) := by show (if _ then _ else _) = _; rw [if_pos ⟨h, h2⟩]
theorem pow5 {i : Int} (h : i.natAbs < 2 ^ 64) : opPow (.int i) (.int 5) = some (.int (i ^ 5)) := by show (if _ then _ else _) = _; rw [if_pos ⟨by decide, by decide, h⟩] <;> rfl
theorem mul_int {i j : Int} (h : -(2 ^ 64) < i ∧ i < 2 ^ 64) : opMulS (.int i) (.int j) = some (.int (i * j)) := by show (if _ then _ else _) = _; rw [if_pos h]
theorem opGe_int (i j : Int) : opGe (.int i) (.int j) = some (.bl (decide (j ≤ i))) := rfl
theorem opLt_int (i j : Int) : opLt (.int i) (.int j) = some (.bl (decide (i < j))) := rfl
theorem addL_int (i j : Int) : opAddL (.int i) (.int j) = some (.int (i + j)) := rfl
theorem C3 (env : En) (ns : List Int) (a r c : Int) (h : env[0]? = some (.val (.obj 0))) : setC3 env (rg ns a r c) = .ok (.next env) (rg ns a r (c + 1)) := set3 (v := c + 1) (c := c) h (by simp only [mDef, mDefN, env0, List.map_cons, List.map_nil, List.replicate, List.cons_append, List.nil_append, Nat.reduceSub, msSeq, msIf, msRet, msNil, msSet, msRetN, mVar, mVarW, mC, m1, m2, m2S, m2N, mtE, mtNot, mtOr, mtAnd, mAnd, mOr, mNot, mIf, mN, mTup, mLst, mCB, mCN, maCons, maNil, mCall, mCallN, arity, mSl, moN, moS, mLc, miSeq, R.bind_ok, R.bind_exc, R.bind_bad, R.ofO_some, R.ofO_none, List.getElem?_cons_zero, List.getElem?_cons_succ, List.set_cons_zero, List.set_cons_succ, List.length_cons, List.length_nil, Nat.reduceAdd, Nat.zero_add, if_true, reduceIte, asB, asI, Bool.true_eq_false, Bool.false_eq_true, if_false, Bool.not_true, Bool.not_false, Option.bind_some, Option.map_some, Nat.reduceLeDiff, Nat.zero_le, h, ixS3, addL_int]) rfl (s' := [])
theorem A1 (env : En) (ns : List Int) (a r c b : Int) (h : env[0]? = some (.val (.obj 0))) (h2 : env[2]? = some (.val (.int b))) : setA1 env (rg ns a r c) = .ok (.next env) (rg ns (b + 1) r c) := set1 (v := b + 1) (a := a) h (by simp only [mDef, mDefN, env0, List.map_cons, List.map_nil, List.replicate, List.cons_append, List.nil_append, Nat.reduceSub, msSeq, msIf, msRet, msNil, msSet, msRetN, mVar, mVarW, mC, m1, m2, m2S, m2N, mtE, mtNot, mtOr, mtAnd, mAnd, mOr, mNot, mIf, mN, mTup, mLst, mCB, mCN, maCons, maNil, mCall, mCallN, arity, mSl, moN, moS, mLc, miSeq, R.bind_ok, R.bind_exc, R.bind_bad, R.ofO_some, R.ofO_none, List.getElem?_cons_zero, List.getElem?_cons_succ, List.set_cons_zero, List.set_cons_succ, List.length_cons, List.length_nil, Nat.reduceAdd, Nat.zero_add, if_true, reduceIte, asB, asI, Bool.true_eq_false, Bool.false_eq_true, if_false, Bool.not_true, Bool.not_false, Option.bind_some, Option.map_some, Nat.reduceLeDiff, Nat.zero_le, h2, addL_int]) rfl
theorem R2 (env : En) (ns : List Int) (a r c m : Int) (h : env[0]? = some (.val (.obj 0))) (h1 : env[1]? = some (.val (.int m))) (mp : 0 < m) (ml : m < 1073741824) : setR2 env (rg ns a r c) = .ok (.next env) (rg ns a (r / m) c) := set2 (v := r / m) (r := r) h (by simp only [mDef, mDefN, env0, List.map_cons, List.map_nil, List.replicate, List.cons_append, List.nil_append, Nat.reduceSub, msSeq, msIf, msRet, msNil, msSet, msRetN, mVar, mVarW, mC, m1, m2, m2S, m2N, mtE, mtNot, mtOr, mtAnd, mAnd, mOr, mNot, mIf, mN, mTup, mLst, mCB, mCN, maCons, maNil, mCall, mCallN, arity, mSl, moN, moS, mLc, miSeq, R.bind_ok, R.bind_exc, R.bind_bad, R.ofO_some, R.ofO_none, List.getElem?_cons_zero, List.getElem?_cons_succ, List.set_cons_zero, List.set_cons_succ, List.length_cons, List.length_nil, Nat.reduceAdd, Nat.zero_add, if_true, reduceIte, asB, asI, Bool.true_eq_false, Bool.false_eq_true, if_false, Bool.not_true, Bool.not_false, Option.bind_some, Option.map_some, Nat.reduceLeDiff, Nat.zero_le, h, h1, ixS2, div_int mp ml]) rfl
theorem R3 (env : En) (ns : List Int) (a r c b m : Int) (h : env[0]? = some (.val (.obj 0))) (h3 : env[3]? = some (.val (.int b))) (h1 : env[1]? = some (.val (.int m))) (mp : 0 < m) (ml : m < 1073741824) : setR3 env (rg ns a r c) = .ok (.next env) (rg ns a (b / m) c) := set2 (v := b / m) (r := r) h (by simp only [mDef, mDefN, env0, List.map_cons, List.map_nil, List.replicate, List.cons_append, List.nil_append, Nat.reduceSub, msSeq, msIf, msRet, msNil, msSet, msRetN, mVar, mVarW, mC, m1, m2, m2S, m2N, mtE, mtNot, mtOr, mtAnd, mAnd, mOr, mNot, mIf, mN, mTup, mLst, mCB, mCN, maCons, maNil, mCall, mCallN, arity, mSl, moN, moS, mLc, miSeq, R.bind_ok, R.bind_exc, R.bind_bad, R.ofO_some, R.ofO_none, List.getElem?_cons_zero, List.getElem?_cons_succ, List.set_cons_zero, List.set_cons_succ, List.length_cons, List.length_nil, Nat.reduceAdd, Nat.zero_add, if_true, reduceIte, asB, asI, Bool.true_eq_false, Bool.false_eq_true, if_false, Bool.not_true, Bool.not_false, Option.bind_some, Option.map_some, Nat.reduceLeDiff, Nat.zero_le, h3, h1, div_int mp ml]) rfl
theorem tail (ns : List Int) (a r : Int) (c : Nat) (m v : Int) (mp : 0 < m) (hc : c ≤ 1000000) (k5 : Sl) (b : Int) :
    ∃ q : Int, tailM [.val (.obj 0), .val (.int m), .val (.int b), .val (.int v), .none, k5] (rg ns a r (c : Int)) = .ok (.ret (.int q)) (rg ns a r (c : Int)) ∧ 0 ≤ q ∧ q < m := by
  have b1 : 0 ≤ v % 2147483549 := Int.emod_nonneg _ (by decide)
  have b2 : v % 2147483549 < 2147483549 := Int.emod_lt_of_pos _ (by decide)
  have n1 : (v % 2147483549 + 60013 * (c : Int) + 29).natAbs < 2 ^ 64 := by omega
  unfold tailM
  generalize hw : (v % 2147483549 + 60013 * (c : Int) + 29) ^ 5 = w at *
  have b3 : 0 ≤ w % 2147483587 := Int.emod_nonneg _ (by decide)
  have b4 : w % 2147483587 < 2147483587 := Int.emod_lt_of_pos _ (by decide)
  have n2 : (w % 2147483587 + 9697 * (c : Int)).natAbs < 2 ^ 64 := by omega
  refine ⟨(w % 2147483587 + 9697 * (c : Int)) ^ 5 % 2147483563 / 64 % m, ?_, Int.emod_nonneg _ (by omega), Int.emod_lt_of_pos _ mp⟩
  simp only [mDef, mDefN, env0, List.map_cons, List.map_nil, List.replicate, List.cons_append, List.nil_append, Nat.reduceSub, msSeq, msIf, msRet, msNil, msSet, msRetN, mVar, mVarW, mC, m1, m2, m2S, m2N, mtE, mtNot, mtOr, mtAnd, mAnd, mOr, mNot, mIf, mN, mTup, mLst, mCB, mCN, maCons, maNil, mCall, mCallN, arity, mSl, moN, moS, mLc, miSeq, R.bind_ok, R.bind_exc, R.bind_bad, R.ofO_some, R.ofO_none, List.getElem?_cons_zero, List.getElem?_cons_succ, List.set_cons_zero, List.set_cons_succ, List.length_cons, List.length_nil, Nat.reduceAdd, Nat.zero_add, if_true, reduceIte, asB, asI, Bool.true_eq_false, Bool.false_eq_true, if_false, Bool.not_true, Bool.not_false, Option.bind_some, Option.map_some, Nat.reduceLeDiff, Nat.zero_le, mod_int (show (0 : Int) < 2147483549 by decide), mod_int (show (0 : Int) < 2147483587 by decide), mod_int (show (0 : Int) < 2147483563 by decide), mod_int mp, mul_int (show -(2 ^ 64) < (60013 : Int) ∧ (60013 : Int) < 2 ^ 64 by decide), mul_int (show -(2 ^ 64) < (9697 : Int) ∧ (9697 : Int) < 2 ^ 64 by decide), ixS3, addL_int, pow5 n1, hw, pow5 n2, div_int (show (0 : Int) < 64 by decide) (by decide)]
theorem ix_int (ns : List Int) (i : Int) (h0 : 0 ≤ i) (h1 : i < (ns.length : Nat)) : ∃ v, opIx (.lst (ns.map .int)) (.int i) = some (.int v) := by
  have hi : i.toNat < ns.length := by omega
  refine ⟨ns[i.toNat], ?_⟩
  show atI _ _ = _
  unfold atI ixN
  rw [List.length_map, if_pos h0, if_pos h1]
  simp [List.getElem?_eq_getElem hi]
theorem draw {n : Nat} {s : Bxs} (h : Rg n s) (hn : n < 1000000) (m : Int) (mp : 0 < m) (ml : m < 1073741824) : ∃ (v : Int) (s' : Bxs), f__law_draw [.obj 0, .int m] s = .ok (.int v) s' ∧ 0 ≤ v ∧ v < m ∧ Rg (n + 1) s' := by
  obtain ⟨ns, a, r, c, rfl, ha, hc⟩ := h
  unfold f__law_draw
  rw [em_draw]
  have e0 : (c : Int) + 1 = ((c + 1 : Nat) : Int) := rfl
  by_cases hr : 0 < r
  · refine ⟨r % m, rg ns a (r / m) (c + 1 : Nat), ?_, Int.emod_nonneg _ (by omega), Int.emod_lt_of_pos _ mp, ns, a, r / m, c + 1, rfl, ha, by omega⟩
    simp only [mDef, mDefN, env0, List.map_cons, List.map_nil, List.replicate, List.cons_append, List.nil_append, Nat.reduceSub, msSeq, msIf, msRet, msNil, msSet, msRetN, mVar, mVarW, mC, m1, m2, m2S, m2N, mtE, mtNot, mtOr, mtAnd, mAnd, mOr, mNot, mIf, mN, mTup, mLst, mCB, mCN, maCons, maNil, mCall, mCallN, arity, mSl, moN, moS, mLc, miSeq, R.bind_ok, R.bind_exc, R.bind_bad, R.ofO_some, R.ofO_none, List.getElem?_cons_zero, List.getElem?_cons_succ, List.set_cons_zero, List.set_cons_succ, List.length_cons, List.length_nil, Nat.reduceAdd, Nat.zero_add, if_true, reduceIte, asB, asI, Bool.true_eq_false, Bool.false_eq_true, if_false, Bool.not_true, Bool.not_false, Option.bind_some, Option.map_some, Nat.reduceLeDiff, Nat.zero_le, C3, ixS2, opGt_int, decide_eq_true hr, mod_int mp]
    rw [R2 _ _ _ _ _ m rfl rfl mp ml]
    simp only [mDef, mDefN, env0, List.map_cons, List.map_nil, List.replicate, List.cons_append, List.nil_append, Nat.reduceSub, msSeq, msIf, msRet, msNil, msSet, msRetN, mVar, mVarW, mC, m1, m2, m2S, m2N, mtE, mtNot, mtOr, mtAnd, mAnd, mOr, mNot, mIf, mN, mTup, mLst, mCB, mCN, maCons, maNil, mCall, mCallN, arity, mSl, moN, moS, mLc, miSeq, R.bind_ok, R.bind_exc, R.bind_bad, R.ofO_some, R.ofO_none, List.getElem?_cons_zero, List.getElem?_cons_succ, List.set_cons_zero, List.set_cons_succ, List.length_cons, List.length_nil, Nat.reduceAdd, Nat.zero_add, if_true, reduceIte, asB, asI, Bool.true_eq_false, Bool.false_eq_true, if_false, Bool.not_true, Bool.not_false, Option.bind_some, Option.map_some, Nat.reduceLeDiff, Nat.zero_le, e0]
  · have key : ∀ v : Int, ∃ (q : Int) (s' : Bxs) (e' : En), restM [.val (.obj 0), .val (.int m), .val (.int a), .val (.int v), .none, .none] (rg ns (a + 1) r (c + 1)) = .ok (.ret (.int q)) s' ∧ 0 ≤ q ∧ q < m ∧ Rg (n + 1) s' := fun v => by
      unfold restM
      obtain ⟨q, hq, q1, q2⟩ := tail ns (a + 1) r (c + 1) m v mp (by omega) .none a
      rw [← e0] at hq
      by_cases g : (1000000000000000000 : Int) ≤ v
      · by_cases g2 : a < ((ns.length : Nat) : Int)
        · refine ⟨v % m, rg ns (a + 1) (v / m) (c + 1 : Nat), [], ?_, Int.emod_nonneg _ (by omega), Int.emod_lt_of_pos _ mp, ns, a + 1, v / m, c + 1, rfl, by omega, by omega⟩
          simp only [mDef, mDefN, env0, List.map_cons, List.map_nil, List.replicate, List.cons_append, List.nil_append, Nat.reduceSub, msSeq, msIf, msRet, msNil, msSet, msRetN, mVar, mVarW, mC, m1, m2, m2S, m2N, mtE, mtNot, mtOr, mtAnd, mAnd, mOr, mNot, mIf, mN, mTup, mLst, mCB, mCN, maCons, maNil, mCall, mCallN, arity, mSl, moN, moS, mLc, miSeq, R.bind_ok, R.bind_exc, R.bind_bad, R.ofO_some, R.ofO_none, List.getElem?_cons_zero, List.getElem?_cons_succ, List.set_cons_zero, List.set_cons_succ, List.length_cons, List.length_nil, Nat.reduceAdd, Nat.zero_add, if_true, reduceIte, asB, asI, Bool.true_eq_false, Bool.false_eq_true, if_false, Bool.not_true, Bool.not_false, Option.bind_some, Option.map_some, Nat.reduceLeDiff, Nat.zero_le, p18, opGe_int, decide_eq_true g, ixS0, fLen, List.length_map, opLt_int, decide_eq_true g2]
          rw [R3 _ _ _ _ _ v m rfl rfl rfl mp ml]
          simp only [mDef, mDefN, env0, List.map_cons, List.map_nil, List.replicate, List.cons_append, List.nil_append, Nat.reduceSub, msSeq, msIf, msRet, msNil, msSet, msRetN, mVar, mVarW, mC, m1, m2, m2S, m2N, mtE, mtNot, mtOr, mtAnd, mAnd, mOr, mNot, mIf, mN, mTup, mLst, mCB, mCN, maCons, maNil, mCall, mCallN, arity, mSl, moN, moS, mLc, miSeq, R.bind_ok, R.bind_exc, R.bind_bad, R.ofO_some, R.ofO_none, List.getElem?_cons_zero, List.getElem?_cons_succ, List.set_cons_zero, List.set_cons_succ, List.length_cons, List.length_nil, Nat.reduceAdd, Nat.zero_add, if_true, reduceIte, asB, asI, Bool.true_eq_false, Bool.false_eq_true, if_false, Bool.not_true, Bool.not_false, Option.bind_some, Option.map_some, Nat.reduceLeDiff, Nat.zero_le, mod_int mp, e0]
        · refine ⟨q, rg ns (a + 1) r (c + 1 : Nat), [], ?_, q1, q2, ns, a + 1, r, c + 1, rfl, by omega, by omega⟩
          simp only [mDef, mDefN, env0, List.map_cons, List.map_nil, List.replicate, List.cons_append, List.nil_append, Nat.reduceSub, msSeq, msIf, msRet, msNil, msSet, msRetN, mVar, mVarW, mC, m1, m2, m2S, m2N, mtE, mtNot, mtOr, mtAnd, mAnd, mOr, mNot, mIf, mN, mTup, mLst, mCB, mCN, maCons, maNil, mCall, mCallN, arity, mSl, moN, moS, mLc, miSeq, R.bind_ok, R.bind_exc, R.bind_bad, R.ofO_some, R.ofO_none, List.getElem?_cons_zero, List.getElem?_cons_succ, List.set_cons_zero, List.set_cons_succ, List.length_cons, List.length_nil, Nat.reduceAdd, Nat.zero_add, if_true, reduceIte, asB, asI, Bool.true_eq_false, Bool.false_eq_true, if_false, Bool.not_true, Bool.not_false, Option.bind_some, Option.map_some, Nat.reduceLeDiff, Nat.zero_le, p18, opGe_int, decide_eq_true g, ixS0, fLen, List.length_map, opLt_int, decide_eq_false g2]
          rw [hq, e0]
      · refine ⟨q, rg ns (a + 1) r (c + 1 : Nat), [], ?_, q1, q2, ns, a + 1, r, c + 1, rfl, by omega, by omega⟩
        simp only [mDef, mDefN, env0, List.map_cons, List.map_nil, List.replicate, List.cons_append, List.nil_append, Nat.reduceSub, msSeq, msIf, msRet, msNil, msSet, msRetN, mVar, mVarW, mC, m1, m2, m2S, m2N, mtE, mtNot, mtOr, mtAnd, mAnd, mOr, mNot, mIf, mN, mTup, mLst, mCB, mCN, maCons, maNil, mCall, mCallN, arity, mSl, moN, moS, mLc, miSeq, R.bind_ok, R.bind_exc, R.bind_bad, R.ofO_some, R.ofO_none, List.getElem?_cons_zero, List.getElem?_cons_succ, List.set_cons_zero, List.set_cons_succ, List.length_cons, List.length_nil, Nat.reduceAdd, Nat.zero_add, if_true, reduceIte, asB, asI, Bool.true_eq_false, Bool.false_eq_true, if_false, Bool.not_true, Bool.not_false, Option.bind_some, Option.map_some, Nat.reduceLeDiff, Nat.zero_le, p18, opGe_int, decide_eq_false g]
        rw [hq, e0]
    have key2 : ∃ v : Int, cellM [.val (.obj 0), .val (.int m), .val (.int a), .none, .none, .none] (rg ns (a + 1) r (c + 1)) = .ok (.int v) (rg ns (a + 1) r (c + 1)) := by
      unfold cellM
      cases ns with
      | nil =>
        refine ⟨7, ?_⟩
        simp only [mDef, mDefN, env0, List.map_cons, List.map_nil, List.replicate, List.cons_append, List.nil_append, Nat.reduceSub, msSeq, msIf, msRet, msNil, msSet, msRetN, mVar, mVarW, mC, m1, m2, m2S, m2N, mtE, mtNot, mtOr, mtAnd, mAnd, mOr, mNot, mIf, mN, mTup, mLst, mCB, mCN, maCons, maNil, mCall, mCallN, arity, mSl, moN, moS, mLc, miSeq, R.bind_ok, R.bind_exc, R.bind_bad, R.ofO_some, R.ofO_none, List.getElem?_cons_zero, List.getElem?_cons_succ, List.set_cons_zero, List.set_cons_succ, List.length_cons, List.length_nil, Nat.reduceAdd, Nat.zero_add, if_true, reduceIte, asB, asI, Bool.true_eq_false, Bool.false_eq_true, if_false, Bool.not_true, Bool.not_false, Option.bind_some, Option.map_some, Nat.reduceLeDiff, Nat.zero_le, ixS0, ne_nil _ (flat_ok (ints_flat [])), List.isEmpty_nil]
        have e := ne_nil _ (flat_ok (ints_flat []))
        rw [List.map_nil] at e
        simp only [mDef, mDefN, env0, List.map_cons, List.map_nil, List.replicate, List.cons_append, List.nil_append, Nat.reduceSub, msSeq, msIf, msRet, msNil, msSet, msRetN, mVar, mVarW, mC, m1, m2, m2S, m2N, mtE, mtNot, mtOr, mtAnd, mAnd, mOr, mNot, mIf, mN, mTup, mLst, mCB, mCN, maCons, maNil, mCall, mCallN, arity, mSl, moN, moS, mLc, miSeq, R.bind_ok, R.bind_exc, R.bind_bad, R.ofO_some, R.ofO_none, List.getElem?_cons_zero, List.getElem?_cons_succ, List.set_cons_zero, List.set_cons_succ, List.length_cons, List.length_nil, Nat.reduceAdd, Nat.zero_add, if_true, reduceIte, asB, asI, Bool.true_eq_false, Bool.false_eq_true, if_false, Bool.not_true, Bool.not_false, Option.bind_some, Option.map_some, Nat.reduceLeDiff, Nat.zero_le, e, List.isEmpty_nil]
      | cons x ns =>
        have hp : (0 : Int) < ((x :: ns).length : Nat) := by rw [List.length_cons]; omega
        obtain ⟨v, hv⟩ := ix_int (x :: ns) (a % ((x :: ns).length : Nat)) (Int.emod_nonneg _ (by omega)) (Int.emod_lt_of_pos _ hp)
        refine ⟨v, ?_⟩
        have e := ne_nil _ (flat_ok (ints_flat (x :: ns)))
        rw [List.map_cons] at e hv
        rw [List.length_cons] at hp hv
        simp only [mDef, mDefN, env0, List.map_cons, List.map_nil, List.replicate, List.cons_append, List.nil_append, Nat.reduceSub, msSeq, msIf, msRet, msNil, msSet, msRetN, mVar, mVarW, mC, m1, m2, m2S, m2N, mtE, mtNot, mtOr, mtAnd, mAnd, mOr, mNot, mIf, mN, mTup, mLst, mCB, mCN, maCons, maNil, mCall, mCallN, arity, mSl, moN, moS, mLc, miSeq, R.bind_ok, R.bind_exc, R.bind_bad, R.ofO_some, R.ofO_none, List.getElem?_cons_zero, List.getElem?_cons_succ, List.set_cons_zero, List.set_cons_succ, List.length_cons, List.length_nil, Nat.reduceAdd, Nat.zero_add, if_true, reduceIte, asB, asI, Bool.true_eq_false, Bool.false_eq_true, if_false, Bool.not_true, Bool.not_false, Option.bind_some, Option.map_some, Nat.reduceLeDiff, Nat.zero_le, ixS0, e, List.isEmpty_cons, fLen, mod_int hp, List.length_map, hv]
    obtain ⟨v, hv⟩ := key2
    obtain ⟨q, s', e', hq, q1, q2, q3⟩ := key v
    refine ⟨q, s', ?_, q1, q2, q3⟩
    simp only [mDef, mDefN, env0, List.map_cons, List.map_nil, List.replicate, List.cons_append, List.nil_append, Nat.reduceSub, msSeq, msIf, msRet, msNil, msSet, msRetN, mVar, mVarW, mC, m1, m2, m2S, m2N, mtE, mtNot, mtOr, mtAnd, mAnd, mOr, mNot, mIf, mN, mTup, mLst, mCB, mCN, maCons, maNil, mCall, mCallN, arity, mSl, moN, moS, mLc, miSeq, R.bind_ok, R.bind_exc, R.bind_bad, R.ofO_some, R.ofO_none, List.getElem?_cons_zero, List.getElem?_cons_succ, List.set_cons_zero, List.set_cons_succ, List.length_cons, List.length_nil, Nat.reduceAdd, Nat.zero_add, if_true, reduceIte, asB, asI, Bool.true_eq_false, Bool.false_eq_true, if_false, Bool.not_true, Bool.not_false, Option.bind_some, Option.map_some, Nat.reduceLeDiff, Nat.zero_le, C3, ixS2, opGt_int, decide_eq_false hr, ixS1]
    rw [A1 _ _ _ _ _ a rfl rfl]
    simp only [mDef, mDefN, env0, List.map_cons, List.map_nil, List.replicate, List.cons_append, List.nil_append, Nat.reduceSub, msSeq, msIf, msRet, msNil, msSet, msRetN, mVar, mVarW, mC, m1, m2, m2S, m2N, mtE, mtNot, mtOr, mtAnd, mAnd, mOr, mNot, mIf, mN, mTup, mLst, mCB, mCN, maCons, maNil, mCall, mCallN, arity, mSl, moN, moS, mLc, miSeq, R.bind_ok, R.bind_exc, R.bind_bad, R.ofO_some, R.ofO_none, List.getElem?_cons_zero, List.getElem?_cons_succ, List.set_cons_zero, List.set_cons_succ, List.length_cons, List.length_nil, Nat.reduceAdd, Nat.zero_add, if_true, reduceIte, asB, asI, Bool.true_eq_false, Bool.false_eq_true, if_false, Bool.not_true, Bool.not_false, Option.bind_some, Option.map_some, Nat.reduceLeDiff, Nat.zero_le, hv, hq]
end K85

set_option maxRecDepth 100000
set_option maxHeartbeats 4000000
namespace K85
open PySem PySem.Spec PyProof.Rows L2 UH PySem.NumText

/-! ### a bent line -/
def tot (ts : List Str) : Nat := (ts.map (·.length)).sum + ts.length
theorem tot_nil : tot [] = 0 := rfl
theorem tot_cons (t : Str) (ts : List Str) : tot (t :: ts) = t.length + 1 + tot ts := by
  unfold tot
  rw [List.map_cons, List.sum_cons, List.length_cons]
  omega
theorem len_app (x y : Str) : (x ++ y).length = x.length + y.length := by
  show (x.cps ++ y.cps).size = x.cps.size + y.cps.size
  exact Array.size_append
theorem join_len : ∀ (ts : List Str), ts ≠ [] → (Str.join " " ts).length + 1 = tot ts
  | [], h => absurd rfl h
  | [x], _ => by rw [tot_cons, tot_nil]; rfl
  | x :: y :: r, _ => by
    have ih := join_len (y :: r) (by simp)
    rw [tot_cons, ← ih]
    show (x ++ " " ++ Str.join " " (y :: r)).length + 1 = _
    rw [len_app, len_app]
    show x.length + 1 + _ + 1 = _
    omega
theorem join_le (ts : List Str) : (Str.join " " ts).length ≤ tot ts := by
  cases ts with
  | nil => exact Nat.le_refl 0
  | cons t r => have := join_len (t :: r) (by simp); omega
theorem tot_app (a b : List Str) : tot (a ++ b) = tot a + tot b := by
  unfold tot
  rw [List.map_append, List.sum_append, List.length_append]
  omega
theorem tot_take (i : Nat) (a : List Str) : tot (a.take i) ≤ tot a := by
  have := tot_app (a.take i) (a.drop i)
  rw [List.take_append_drop] at this
  omega
theorem tot_drop (i : Nat) (a : List Str) : tot (a.drop i) ≤ tot a := by
  have := tot_app (a.take i) (a.drop i)
  rw [List.take_append_drop] at this
  omega
theorem tot_len (a : List Str) : a.length ≤ tot a := by unfold tot; omega
theorem tot_split (x : Str) : tot (Txt.split x " ") = x.length + 1 := by
  obtain ⟨k, ps, h⟩ := split_ne x
  rw [← join_len _ (by rw [h]; simp), PySem.StrLaws.join_split]
theorem join_ok (ys : List Str) (h : tot ys ≤ 1000000) : opJoin (.str " ") (.lst (ys.map .str)) = some (.str (Str.join " " ys)) := by
  have e : ∀ zs : List Str, asSs (zs.map .str) = some zs := fun zs => by
    induction zs with
    | nil => rfl
    | cons z r ih => show (asSs (r.map .str)).map (z :: ·) = _; rw [ih] <;> rfl
  show ((asSs (ys.map .str)).bind fun ys => _) = _
  rw [e]
  show (if (ys.map (·.length)).sum + ys.length * (" " : Str).length ≤ 16777216 then _ else _) = _
  have l : (" " : Str).length = 1 := rfl
  unfold tot at h
  rw [if_pos (by rw [l]; omega)]
theorem addL_strs (a b : List Str) (h : a.length + b.length ≤ 1000000) : opAddL (.lst (a.map .str)) (.lst (b.map .str)) = some (.lst ((a ++ b).map .str)) := by
  show (if _ then _ else _) = _
  rw [List.length_map, List.length_map, if_pos (by rw [sizeLine_eq]; omega), List.map_append]
theorem addL_str (a b : Str) (h : a.length + b.length ≤ 1000000) : opAddL (.str a) (.str b) = some (.str (a ++ b)) := by
  show (if _ then _ else _) = _
  rw [if_pos (by rw [sizeLine_eq]; omega)]
theorem sl_to (ps : List Str) (i : Nat) : opSl (.lst (ps.map .str)) none (some (i : Int)) = some (.lst ((ps.take i).map .str)) := by
  show some (D.lst (UH.cutD _ _ _)) = _
  unfold UH.cutD
  rw [HT.sIx_nat, HT.sIx_none, List.drop_zero, List.length_map, Nat.sub_zero, ← List.map_take]
  congr 3
  rw [List.take_eq_take_iff]
  omega
theorem sl_from (ps : List Str) (i : Nat) : opSl (.lst (ps.map .str)) (some (i : Int)) none = some (.lst ((ps.drop i).map .str)) := by
  show some (D.lst (UH.cutD _ _ _)) = _
  unfold UH.cutD
  rw [HT.sIx_nat, HT.sIx_none, List.length_map, ← List.map_drop, ← List.map_take]
  congr 3
  by_cases h : i ≤ ps.length
  · rw [Nat.min_eq_left h]
    exact List.take_of_length_le (by rw [List.length_drop]; omega)
  · rw [Nat.min_eq_right (by omega), Nat.sub_self, List.drop_eq_nil_of_le (Nat.le_refl _), List.drop_eq_nil_of_le (by omega)]
    rfl
theorem sl_str (x : Str) (lo hi : Option Int) : ∃ y : Str, opSl (.str x) lo hi = some (.str y) ∧ y.length ≤ x.length := ⟨_, rfl, J1.cutS_len_le x lo hi⟩
theorem ix_of (xs : List D) (i : Nat) (h : i < xs.length) : ∃ d ∈ xs, opIx (.lst xs) (.int (i : Int)) = some d := by
  refine ⟨xs[i], List.getElem_mem _, ?_⟩
  show atI _ _ = _
  unfold atI ixN
  rw [if_pos (by omega), if_pos (by omega)]
  simp [List.getElem?_eq_getElem h]
def strLe (n : Nat) : D → Bool
  | .str z => decide (z.length ≤ n)
  | _ => false
theorem ix_le (n : Nat) (xs : List D) (h : xs.all (strLe n) = true) (i : Nat) (hi : i < xs.length) : ∃ z : Str, opIx (.lst xs) (.int (i : Int)) = some (.str z) ∧ z.length ≤ n := by
  obtain ⟨d, hd, e⟩ := ix_of xs i hi
  have q := List.all_eq_true.mp h d hd
  match d, q, e with
  | .str z, q, e => exact ⟨z, e, of_decide_eq_true q⟩
theorem ix_char (x : Str) (i : Nat) (hi : i < x.length) : ∃ z : Str, opIx (.str x) (.int (i : Int)) = some (.str z) ∧ z.length = 1 := by
  have hi' : i < x.cps.toList.length := by rw [Array.length_toList]; exact hi
  refine ⟨⟨#[x.cps.toList[i]]⟩, ?_, rfl⟩
  show (atI _ _).map _ = _
  unfold atI ixN
  rw [if_pos (by omega), if_pos (by omega)]
  simp [List.getElem?_eq_getElem hi']
theorem drawN {n : Nat} {s : Bxs} (h : Rg n s) (hn : n < 1000000) (m : Nat) (m1 : 0 < m) (m2 : m < 1073741824) : ∃ (v : Nat) (s' : Bxs), f__law_draw [.obj 0, .int (m : Int)] s = .ok (.int (v : Int)) s' ∧ v < m ∧ Rg (n + 1) s' := by
  obtain ⟨v, s', h1, h2, h3, h4⟩ := draw h hn (m : Int) (by omega) (by omega)
  obtain ⟨i, rfl⟩ := Int.eq_ofNat_of_zero_le h2
  exact ⟨i, s', h1, by omega, h4⟩
theorem modline {n : Nat} {s : Bxs} (h : Rg n s) (hn : n + 5 < 1000000) (x : Str) (hx : x.length ≤ 10000) : ∃ (y : Str) (s' : Bxs), f__law_modified_line [.obj 0, .str x] s = .ok (.str y) s' ∧ y.length ≤ 2 * x.length + 20 ∧ Rg (n + 5) s' := by
  have hl := tot_split x
  have hne : 0 < (Txt.split x " ").length := by obtain ⟨k, ps, e⟩ := split_ne x; rw [e]; simp
  have hs := split_op x (by rw [sizeLine_eq]; omega)
  generalize Txt.split x " " = ps at *
  have hpl := tot_len ps
  obtain ⟨i, s1, d1, i1, h1⟩ := drawN h (by omega) ps.length hne (by omega)
  obtain ⟨j, s2, d2, j1, h2⟩ := drawN h1 (by omega) (x.length + 1) (by omega) (by omega)
  obtain ⟨a, s3, d3, a1, h3⟩ := drawN h2 (by omega) 12 (by omega) (by omega)
  obtain ⟨b, s4, d4, b1, h4⟩ := drawN h3 (by omega) 9 (by omega) (by omega)
  obtain ⟨c, s5, d5, c1, h5⟩ := drawN h4 (by omega) 6 (by omega) (by omega)
  obtain ⟨z, hz, z9⟩ := ix_le 9 [.str "hear", .str "tell", .str "-", .str "ann", .str "abcde", .str "0", .str "07", .str "", .str "01", .str "-1", .str "abcdefghi", .str "Do"] (by decide) a a1
  obtain ⟨t, ht, t1⟩ := ix_char "a0-,. 9ZJ" b b1
  obtain ⟨xa, hxa, lxa⟩ := sl_str x none (some (j : Int))
  obtain ⟨xb, hxb, lxb⟩ := sl_str x (some (j : Int)) none
  obtain ⟨xc, hxc, lxc⟩ := sl_str x (some ((j : Int) + 1)) none
  have k1 := tot_take i ps
  have k2 := tot_drop i ps
  have k3 := tot_drop (i + 1) ps
  have w1 := tot_len (ps.take i)
  have w2 := tot_len (ps.drop i)
  have w3 := tot_len (ps.drop (i + 1))
  have kz : tot [z] ≤ 10 := by rw [tot_cons, tot_nil]; omega
  have c1' : (i : Int) + 1 = ((i + 1 : Nat) : Int) := rfl
  have n1 : (([z] : List Str).map D.str) = [D.str z] := rfl
  have s1 : ([z] : List Str).length = 1 := rfl
  have y1 := tot_app (ps.take i) (ps.drop (i + 1))
  have y2 := tot_app (ps.take i ++ [z]) (ps.drop i)
  have y2' := tot_app (ps.take i) [z]
  have y3 := tot_app (ps.take i ++ [z]) (ps.drop (i + 1))
  have q2 := addL_strs (ps.take i) [z] (by omega)
  rw [n1] at q2
  have r1 := join_le (ps.take i ++ ps.drop (i + 1))
  have r2 := join_le (ps.take i ++ [z] ++ ps.drop i)
  have r3 := join_le (ps.take i ++ [z] ++ ps.drop (i + 1))
  have l2 : (ps.take i ++ [z]).length ≤ tot (ps.take i ++ [z]) := tot_len _
  have e1 : ((" " : Str)).length = 1 := rfl
  have v4 : (xa ++ t ++ xb).length = xa.length + t.length + xb.length := by rw [len_app, len_app]
  have v5 : (xa ++ xc).length = xa.length + xc.length := len_app _ _
  have v6 : (x ++ (" " : Str)).length = x.length + 1 := len_app _ _
  obtain ⟨y, hy, ly⟩ := ix_le (2 * x.length + 20) [.str (Str.join " " (ps.take i ++ ps.drop (i + 1))), .str (Str.join " " (ps.take i ++ [z] ++ ps.drop i)), .str (Str.join " " (ps.take i ++ [z] ++ ps.drop (i + 1))), .str (xa ++ t ++ xb), .str (xa ++ xc), .str (x ++ " ")]
    (by simp only [List.all_cons, List.all_nil, strLe, Bool.and_true, Bool.and_eq_true, decide_eq_true_eq]; omega) c c1
  refine ⟨y, s5, ?_, ly, h5⟩
  have u1 (p q r t : D) : opAddL (.lst [p, q]) (.lst [r, t]) = some (.lst [p, q, r, t]) := rfl
  have u2 (p q r t p' q' : D) : opAddL (.lst [p, q, r, t]) (.lst [p', q']) = some (.lst [p, q, r, t, p', q']) := rfl
  have d3 : f__law_draw [.obj 0, .int 12] s2 = .ok (.int (a : Int)) s3 := d3
  have d4 : f__law_draw [.obj 0, .int 9] s3 = .ok (.int (b : Int)) s4 := d4
  have d5 : f__law_draw [.obj 0, .int 6] s4 = .ok (.int (c : Int)) s5 := d5
  unfold f__law_modified_line m__law_modified_line
  have f1 : (x.length : Int) + 1 = ((x.length + 1 : Nat) : Int) := rfl
  simp only [mDef, mDefN, env0, List.map_cons, List.map_nil, List.replicate, List.cons_append, List.nil_append, Nat.reduceSub, msSeq, msIf, msRet, msNil, msSet, msRetN, mVar, mVarW, mC, m1, m2, m2S, m2N, mtE, mtNot, mtOr, mtAnd, mAnd, mOr, mNot, mIf, mN, mTup, mLst, mCB, mCN, maCons, maNil, mCall, mCallN, arity, mSl, moN, moS, mLc, miSeq, R.bind_ok, R.bind_exc, R.bind_bad, R.ofO_some, R.ofO_none, List.getElem?_cons_zero, List.getElem?_cons_succ, List.set_cons_zero, List.set_cons_succ, List.length_cons, List.length_nil, Nat.reduceAdd, Nat.zero_add, if_true, reduceIte, asB, asI, Bool.true_eq_false, Bool.false_eq_true, if_false, Bool.not_true, Bool.not_false, Option.bind_some, Option.map_some, Nat.reduceLeDiff, Nat.zero_le, msPar, asStr, hs, fLen, List.length_map, d1, addL_int, f1, d2]
  have g1 := join_ok _ (show tot (ps.take i ++ ps.drop (i + 1)) ≤ 1000000 by omega)
  have g2 := join_ok _ (show tot (ps.take i ++ [z] ++ ps.drop i) ≤ 1000000 by omega)
  have g3 := join_ok _ (show tot (ps.take i ++ [z] ++ ps.drop (i + 1)) ≤ 1000000 by omega)
  have a1 := addL_strs (ps.take i) (ps.drop (i + 1)) (by omega)
  have a2 := addL_strs (ps.take i ++ [z]) (ps.drop i) (by omega)
  have a3 := addL_strs (ps.take i ++ [z]) (ps.drop (i + 1)) (by omega)
  have b1 := addL_str xa t (by omega)
  have b2 := addL_str (xa ++ t) xb (by rw [len_app]; omega)
  have b3 := addL_str xa xc (by omega)
  have b4 := addL_str x " " (by omega)
  simp only [mDef, mDefN, env0, List.map_cons, List.map_nil, List.replicate, List.cons_append, List.nil_append, Nat.reduceSub, msSeq, msIf, msRet, msNil, msSet, msRetN, mVar, mVarW, mC, m1, m2, m2S, m2N, mtE, mtNot, mtOr, mtAnd, mAnd, mOr, mNot, mIf, mN, mTup, mLst, mCB, mCN, maCons, maNil, mCall, mCallN, arity, mSl, moN, moS, mLc, miSeq, R.bind_ok, R.bind_exc, R.bind_bad, R.ofO_some, R.ofO_none, List.getElem?_cons_zero, List.getElem?_cons_succ, List.set_cons_zero, List.set_cons_succ, List.length_cons, List.length_nil, Nat.reduceAdd, Nat.zero_add, if_true, reduceIte, asB, asI, Bool.true_eq_false, Bool.false_eq_true, if_false, Bool.not_true, Bool.not_false, Option.bind_some, Option.map_some, Nat.reduceLeDiff, Nat.zero_le, d3, d4, hz, ht, sl_to, addL_int, c1', sl_from, a1, q2, g1, a2, g2, a3, g3, hxa, hxb, hxc, b1, b2, b3, b4, u1, u2, d5, hy]
end K85

set_option maxRecDepth 100000
set_option maxHeartbeats 4000000
namespace K85
open PySem PySem.Spec PyProof.Rows L2 UH PySem.NumText

/-! ### bent lines -/
theorem sl_mid (ps : List Str) (lo hi : Option Int) : ∃ qs : List Str, opSl (.lst (ps.map .str)) lo hi = some (.lst (qs.map .str)) ∧ qs.length ≤ ps.length ∧ ∀ q ∈ qs, q ∈ ps := by
  refine ⟨(ps.drop (HT.sIx ps.length 0 lo)).take (HT.sIx ps.length ps.length hi - HT.sIx ps.length 0 lo), ?_, ?_, fun q hq => List.mem_of_mem_drop (List.mem_of_mem_take hq)⟩
  · show some (D.lst (UH.cutD _ _ _)) = _
    unfold UH.cutD
    rw [List.length_map, ← List.map_drop, ← List.map_take]
  · rw [List.length_take, List.length_drop]; omega
theorem ix_str (ts : List Str) (i : Nat) (h : i < ts.length) : opIx (.lst (ts.map .str)) (.int (i : Int)) = some (.str ts[i]) := by
  show atI _ _ = _
  unfold atI ixN
  rw [List.length_map, if_pos (by omega), if_pos (by omega)]
  simp [List.getElem?_eq_getElem h]
theorem opEq_int (i j : Int) : opEq (.int i) (.int j) = some (.bl (i == j)) := rfl
theorem modlines {n : Nat} {s : Bxs} (h : Rg n s) (hn : n + 7 < 1000000) (ts : List Str) (h0 : 0 < ts.length) (hl : ts.length ≤ 1000) (B : Nat) (hB : B ≤ 10000) (hts : ∀ t ∈ ts, t.length ≤ B) :
    ∃ (us : List Str) (s' : Bxs), f__law_modified_lines [.obj 0, .lst (ts.map .str)] s = .ok (.lst (us.map .str)) s' ∧ us.length ≤ 3 * ts.length ∧ ts.length ≤ us.length + 1 ∧ (∀ u ∈ us, u.length ≤ 2 * B + 20) ∧ Rg (n + 7) s' := by
  have wk : ∀ {a b : Nat} {s : Bxs}, Rg a s → a ≤ b → Rg b s := fun {a b s} ⟨ns, x, r, c, e, h1, h2⟩ h3 => ⟨ns, x, r, c, e, h1, by omega⟩
  obtain ⟨i, s1, d1, i1, h1⟩ := drawN h (by omega) ts.length h0 (by omega)
  obtain ⟨m, s2, d2, mX, h2⟩ := drawN h1 (by omega) 6 (by omega) (by omega)
  have d2 : f__law_draw [.obj 0, .int 6] s1 = .ok (.int (m : Int)) s2 := d2
  have c1' : (i : Int) + 1 = ((i + 1 : Nat) : Int) := rfl
  have w1 : (ts.take i).length = i := by rw [List.length_take]; omega
  have w2 : (ts.drop i).length = ts.length - i := List.length_drop
  have w3 : (ts.drop (i + 1)).length = ts.length - (i + 1) := List.length_drop
  have mt : ∀ u ∈ ts.take i, u.length ≤ B := fun u hu => hts u (List.mem_of_mem_take hu)
  have md : ∀ (j : Nat), ∀ u ∈ ts.drop j, u.length ≤ B := fun j u hu => hts u (List.mem_of_mem_drop hu)
  have qe (k : Int) : opEq (.int (m : Int)) (.int k) = some (.bl (decide ((m : Int) = k))) := opEq_int _ _
  unfold f__law_modified_lines m__law_modified_lines
  by_cases m0 : (m : Int) = 0
  · refine ⟨ts.take i ++ ts.drop (i + 1), s2, ?_, by rw [List.length_append]; omega, by rw [List.length_append]; omega, fun u hu => ?_, wk h2 (by omega)⟩
    · simp only [mDef, mDefN, env0, List.map_cons, List.map_nil, List.replicate, List.cons_append, List.nil_append, Nat.reduceSub, msSeq, msIf, msRet, msNil, msSet, msRetN, mVar, mVarW, mC, m1, m2, m2S, m2N, mtE, mtNot, mtOr, mtAnd, mAnd, mOr, mNot, mIf, mN, mTup, mLst, mCB, mCN, maCons, maNil, mCall, mCallN, arity, mSl, moN, moS, mLc, miSeq, R.bind_ok, R.bind_exc, R.bind_bad, R.ofO_some, R.ofO_none, List.getElem?_cons_zero, List.getElem?_cons_succ, List.set_cons_zero, List.set_cons_succ, List.length_cons, List.length_nil, Nat.reduceAdd, Nat.zero_add, if_true, reduceIte, asB, asI, Bool.true_eq_false, Bool.false_eq_true, if_false, Bool.not_true, Bool.not_false, Option.bind_some, Option.map_some, Nat.reduceLeDiff, Nat.zero_le, msPar, fLen, List.length_map, d1, d2, qe, decide_eq_true m0, sl_to, addL_int, c1', sl_from, addL_strs (ts.take i) (ts.drop (i + 1)) (by omega)]
    · rcases List.mem_append.mp hu with hu | hu
      · have := mt u hu; omega
      · have := md _ u hu; omega
  · by_cases mA : (m : Int) = 1
    · obtain ⟨qs, q1, q2, q3⟩ := sl_mid ts (some (i : Int)) (some ((i + 1 : Nat) : Int))
      have ql : qs.length ≤ ts.length := q2
      refine ⟨ts.take i ++ qs ++ ts.drop i, s2, ?_, by rw [List.length_append, List.length_append]; omega, by rw [List.length_append, List.length_append]; omega, fun u hu => ?_, wk h2 (by omega)⟩
      · have a2 := addL_strs (ts.take i ++ qs) (ts.drop i) (by rw [List.length_append]; omega)
        simp only [mDef, mDefN, env0, List.map_cons, List.map_nil, List.replicate, List.cons_append, List.nil_append, Nat.reduceSub, msSeq, msIf, msRet, msNil, msSet, msRetN, mVar, mVarW, mC, m1, m2, m2S, m2N, mtE, mtNot, mtOr, mtAnd, mAnd, mOr, mNot, mIf, mN, mTup, mLst, mCB, mCN, maCons, maNil, mCall, mCallN, arity, mSl, moN, moS, mLc, miSeq, R.bind_ok, R.bind_exc, R.bind_bad, R.ofO_some, R.ofO_none, List.getElem?_cons_zero, List.getElem?_cons_succ, List.set_cons_zero, List.set_cons_succ, List.length_cons, List.length_nil, Nat.reduceAdd, Nat.zero_add, if_true, reduceIte, asB, asI, Bool.true_eq_false, Bool.false_eq_true, if_false, Bool.not_true, Bool.not_false, Option.bind_some, Option.map_some, Nat.reduceLeDiff, Nat.zero_le, msPar, fLen, List.length_map, d1, d2, qe, decide_eq_false m0, decide_eq_true mA, sl_to, addL_int, c1', q1, sl_from, addL_strs (ts.take i) qs (by omega), a2]
      · rcases List.mem_append.mp hu with hu | hu
        · rcases List.mem_append.mp hu with hu | hu
          · have := mt u hu; omega
          · have := hts u (q3 u hu); omega
        · have := md _ u hu; omega
    · by_cases m2' : (m : Int) = 2
      · refine ⟨ts.drop i ++ ts.take i, s2, ?_, by rw [List.length_append]; omega, by rw [List.length_append]; omega, fun u hu => ?_, wk h2 (by omega)⟩
        · simp only [mDef, mDefN, env0, List.map_cons, List.map_nil, List.replicate, List.cons_append, List.nil_append, Nat.reduceSub, msSeq, msIf, msRet, msNil, msSet, msRetN, mVar, mVarW, mC, m1, m2, m2S, m2N, mtE, mtNot, mtOr, mtAnd, mAnd, mOr, mNot, mIf, mN, mTup, mLst, mCB, mCN, maCons, maNil, mCall, mCallN, arity, mSl, moN, moS, mLc, miSeq, R.bind_ok, R.bind_exc, R.bind_bad, R.ofO_some, R.ofO_none, List.getElem?_cons_zero, List.getElem?_cons_succ, List.set_cons_zero, List.set_cons_succ, List.length_cons, List.length_nil, Nat.reduceAdd, Nat.zero_add, if_true, reduceIte, asB, asI, Bool.true_eq_false, Bool.false_eq_true, if_false, Bool.not_true, Bool.not_false, Option.bind_some, Option.map_some, Nat.reduceLeDiff, Nat.zero_le, msPar, fLen, List.length_map, d1, d2, qe, decide_eq_false m0, decide_eq_false mA, decide_eq_true m2', sl_to, addL_int, c1', sl_from, addL_strs (ts.drop i) (ts.take i) (by omega)]
        · rcases List.mem_append.mp hu with hu | hu
          · have := md _ u hu; omega
          · have := mt u hu; omega
      · have bi := hts ts[i] (List.getElem_mem i1)
        obtain ⟨y, s3, d3, ly, h3⟩ := modline h2 (by omega) ts[i] (by omega)
        have n1 : (([y] : List Str).map D.str) = [D.str y] := rfl
        have a1 := addL_strs (ts.take i) [y] (by rw [List.length_singleton]; omega)
        rw [n1] at a1
        have a2 := addL_strs (ts.take i ++ [y]) (ts.drop (i + 1)) (by rw [List.length_append, List.length_singleton]; omega)
        refine ⟨ts.take i ++ [y] ++ ts.drop (i + 1), s3, ?_, by rw [List.length_append, List.length_append, List.length_singleton]; omega, by rw [List.length_append, List.length_append, List.length_singleton]; omega, fun u hu => ?_, wk h3 (by omega)⟩
        · simp only [mDef, mDefN, env0, List.map_cons, List.map_nil, List.replicate, List.cons_append, List.nil_append, Nat.reduceSub, msSeq, msIf, msRet, msNil, msSet, msRetN, mVar, mVarW, mC, m1, m2, m2S, m2N, mtE, mtNot, mtOr, mtAnd, mAnd, mOr, mNot, mIf, mN, mTup, mLst, mCB, mCN, maCons, maNil, mCall, mCallN, arity, mSl, moN, moS, mLc, miSeq, R.bind_ok, R.bind_exc, R.bind_bad, R.ofO_some, R.ofO_none, List.getElem?_cons_zero, List.getElem?_cons_succ, List.set_cons_zero, List.set_cons_succ, List.length_cons, List.length_nil, Nat.reduceAdd, Nat.zero_add, if_true, reduceIte, asB, asI, Bool.true_eq_false, Bool.false_eq_true, if_false, Bool.not_true, Bool.not_false, Option.bind_some, Option.map_some, Nat.reduceLeDiff, Nat.zero_le, msPar, fLen, List.length_map, d1, d2, qe, decide_eq_false m0, decide_eq_false mA, decide_eq_false m2', sl_to, addL_int, c1', sl_from, ix_str ts i i1, d3, a1, a2]
        · rcases List.mem_append.mp hu with hu | hu
          · rcases List.mem_append.mp hu with hu | hu
            · have := mt u hu; omega
            · cases (List.mem_singleton.mp hu); omega
          · have := md _ u hu; omega
end K85

set_option maxRecDepth 100000
set_option maxHeartbeats 4000000
namespace K85
open PySem PySem.Spec PyProof.Rows L2 UH PySem.NumText

/-! ### rows -/
def partT : D → Str
  | .int i => (toString i : String)
  | .str x => x
  | _ => ""
def partOk : D → Bool
  | .int i => decide (i.natAbs.log2 < 1920)
  | .str _ => true
  | _ => false
def rowT (ds : List D) : Str := Str.join " " (ds.map partT)
theorem fStr_eq : ∀ {d : D}, partOk d = true → fStr [d] = some (.str (partT d))
  | .int i, h => by
    have h : i.natAbs.log2 < 1920 := of_decide_eq_true h
    show (if _ then _ else _) = _
    rw [if_pos h] <;> rfl
  | .str x, _ => rfl
theorem lc_str (i : Nat) (env : En) (hi : i < env.length) (s : Bxs) (ds : List D) (h : ∀ d ∈ ds, partOk d = true) : lcLoop [i] (tgN i) mtYes (mCB fStr (maCons (mVar i) maNil)) env ds s = .ok ((ds.map partT).map .str) s := by
  rw [lc_ok (p := fun _ => true) (f := fun d => .str (partT d))]
  · rw [List.filter_eq_self.mpr (fun _ _ => rfl), List.map_map]
    rfl
  · intro d hd
    have e : ((wipeE env [i]).set i (.val d))[i]? = some (.val d) := List.getElem?_set_self (by rw [wipe_len]; exact hi)
    refine ⟨_, rfl, rfl, fun _ => ?_⟩
    simp only [mDef, mDefN, env0, List.map_cons, List.map_nil, List.replicate, List.cons_append, List.nil_append, Nat.reduceSub, msSeq, msIf, msRet, msNil, msSet, msRetN, mVar, mVarW, mC, m1, m2, m2S, m2N, mtE, mtNot, mtOr, mtAnd, mAnd, mOr, mNot, mIf, mN, mTup, mLst, mCB, mCN, maCons, maNil, mCall, mCallN, arity, mSl, moN, moS, mLc, miSeq, R.bind_ok, R.bind_exc, R.bind_bad, R.ofO_some, R.ofO_none, List.getElem?_cons_zero, List.getElem?_cons_succ, List.set_cons_zero, List.set_cons_succ, List.length_cons, List.length_nil, Nat.reduceAdd, Nat.zero_add, if_true, reduceIte, asB, asI, Bool.true_eq_false, Bool.false_eq_true, if_false, Bool.not_true, Bool.not_false, Option.bind_some, Option.map_some, Nat.reduceLeDiff, Nat.zero_le, e, fStr_eq (h d hd)]
theorem line_of (ds : List D) (h : ∀ d ∈ ds, partOk d = true) (hl : tot (ds.map partT) ≤ 1000000) (s : Bxs) : f_row_line [.tup ds] s = .ok (.str (rowT ds)) s := by
  unfold f_row_line m_row_line
  have e := lc_str 1 [.val (.tup ds), .none] (by show 1 < 2; decide) s ds h
  have l : ((ds.map partT).map D.str).length = ds.length := by rw [List.length_map, List.length_map]
  simp only [mDef, mDefN, env0, List.map_cons, List.map_nil, List.replicate, List.cons_append, List.nil_append, Nat.reduceSub, msSeq, msIf, msRet, msNil, msSet, msRetN, mVar, mVarW, mC, m1, m2, m2S, m2N, mtE, mtNot, mtOr, mtAnd, mAnd, mOr, mNot, mIf, mN, mTup, mLst, mCB, mCN, maCons, maNil, mCall, mCallN, arity, mSl, moN, moS, mLc, miSeq, R.bind_ok, R.bind_exc, R.bind_bad, R.ofO_some, R.ofO_none, List.getElem?_cons_zero, List.getElem?_cons_succ, List.set_cons_zero, List.set_cons_succ, List.length_cons, List.length_nil, Nat.reduceAdd, Nat.zero_add, if_true, reduceIte, asB, asI, Bool.true_eq_false, Bool.false_eq_true, if_false, Bool.not_true, Bool.not_false, Option.bind_some, Option.map_some, Nat.reduceLeDiff, Nat.zero_le, asStr, seqD, e, join_ok _ hl]
  rfl
def far : Int := 10 ^ 59
def fEq : D → D → Bool
  | .int i, .int j => decide (i = j)
  | .str x, .str y => x == y
  | _, _ => false
theorem fEq_eq : ∀ {d e : D}, fEq d e = true → d = e
  | .int i, .int j, h => by rw [of_decide_eq_true h]
  | .str x, .str y, h => by rw [eq_of_beq h]
def pChk (f : Nat) (d : D) : Bool := (match rd f (partT d) with
    | some e => fEq e d
    | none => false) && (partT d).cps.toList.all (fun c => decide (32 ≠ c)) && partOk d && decide ((partT d).length ≤ 60) && d.pl && d.toP.showable && d.toP.leavesShort 64 && decide (d.toP.depth ≤ 0) && decide (d.toP.bulk ≤ 8)
structure Pt (f : Nat) (d : D) : Prop where
  rd : rd f (partT d) = some d
  sp : 32 ∉ (partT d).cps.toList
  ok : partOk d = true
  len : (partT d).length ≤ 60
  sm : Sm 0 8 d
theorem pt_of {f : Nat} {d : D} (h : pChk f d = true) : Pt f d := by
  unfold pChk at h
  simp only [Bool.and_eq_true, decide_eq_true_eq, List.all_eq_true] at h
  obtain ⟨⟨⟨⟨⟨⟨⟨⟨c1, c2⟩, c3⟩, c4⟩, q1⟩, q2⟩, q3⟩, q4⟩, q5⟩ := h
  refine ⟨?_, fun hm => c2 32 hm rfl, c3, c4, ⟨q1, q2, q3, q4, q5⟩⟩
  revert c1
  cases K85.rd f (partT d) with
  | none => intro c1; cases c1
  | some e => intro c1; rw [fEq_eq c1]
structure Gd (ds : List D) : Prop where
  line : ∀ s, f_row_line [.tup ds] s = .ok (.str (rowT ds)) s
  len : (rowT ds).length ≤ 200
  rd : readL (rowT ds) = .inr ds
  sm : Sm 1 36 (.tup ds)
theorem gd_of {k : Str} {fs : List Nat} {ds : List D} (hk : kindsOf k = some fs) (k1 : 32 ∉ k.cps.toList) (k2 : k.length ≤ 8) (k3 : Sm 0 8 (.str k)) (hl : ds.length ≤ 3) (h : ∀ d ∈ ds, ∃ f, Pt f d) (hw : walk fs (ds.map partT) 0 = .inr ds) (hf : (ds.map partT).length = fs.length) : Gd (.str k :: ds) := by
  have pk : ∀ d ∈ D.str k :: ds, partOk d = true := fun d hd => by
    rcases List.mem_cons.mp hd with rfl | hd
    · rfl
    · obtain ⟨f, p⟩ := h d hd; exact p.ok
  have ht : ∀ (ds : List D), (∀ d ∈ ds, ∃ f, Pt f d) → tot (ds.map partT) ≤ ds.length * 61 := fun ds => by
    induction ds with
    | nil => intro _; exact Nat.le_refl 0
    | cons d r ih =>
      intro h
      obtain ⟨f, p⟩ := h d List.mem_cons_self
      have := ih fun x hx => h x (List.mem_cons_of_mem _ hx)
      have := p.len
      rw [List.map_cons, tot_cons, List.length_cons]
      omega
  have t1 := ht ds h
  have t2 : tot ((D.str k :: ds).map partT) ≤ 200 := by
    rw [List.map_cons, tot_cons]
    show k.length + 1 + _ ≤ 200
    omega
  refine ⟨line_of _ pk (by omega), Nat.le_trans (join_le _) t2, ?_, Sm.tup (B := 8) (m := 4) (fun d hd => ?_) (by rw [List.length_cons]; omega)⟩
  · have e : Txt.split (rowT (.str k :: ds)) " " = (D.str k :: ds).map partT := (congrArg (fun z => Txt.split z " ") (TL.join_eq " " ((D.str k :: ds).map partT)).symm).trans <| TL.split_join (s := 32) (S := []) (by decide +kernel) (by decide +kernel) (by simp) fun p hp => by
      obtain ⟨d, hd, rfl⟩ := List.mem_map.mp hp
      rcases List.mem_cons.mp hd with rfl | hd
      · exact k1
      · obtain ⟨f, p⟩ := h d hd; exact p.sp
    unfold readL
    rw [e]
    show (match kindsOf k with
      | none => Sum.inl 0
      | some fs => match walk fs (ds.map partT) 0 with
        | .inl j => .inl (j + 1)
        | .inr ds' => if (ds.map partT).length = fs.length then .inr (.str k :: ds') else .inl (fs.length + 1)) = Sum.inr (D.str k :: ds)
    rw [hk]
    dsimp only
    rw [hw]
    dsimp only
    rw [if_pos hf]
  · rcases List.mem_cons.mp hd with rfl | hd
    · exact k3
    · obtain ⟨f, p⟩ := h d hd; exact p.sm
theorem gd_hear {c w : D} (hc : Pt 0 c) (hw : Pt 1 w) : Gd [.str "hear", c, w] := gd_of (k := "hear") (fs := [0, 1]) rfl (by decide +kernel) (by decide) (Sm.lit (by decide) (by decide)) (by simp) (fun d hd => by
    simp only [List.mem_cons, List.not_mem_nil, or_false] at hd
    rcases hd with rfl | rfl
    · exact ⟨_, hc⟩
    · exact ⟨_, hw⟩) (by simp only [List.map_cons, List.map_nil, walk, hc.rd, hw.rd]) rfl
theorem gd_do {k : Str} {a b c : D} (hk : k = "do" ∨ k = "tell") (ha : Pt 2 a) (hb : Pt 2 b) (hc : Pt 0 c) : Gd [.str k, a, b, c] := by
  refine gd_of (k := k) (fs := [2, 2, 0]) (by rcases hk with rfl | rfl <;> rfl) (by rcases hk with rfl | rfl <;> decide +kernel) (by rcases hk with rfl | rfl <;> decide) (by rcases hk with rfl | rfl <;> exact Sm.lit (by decide) (by decide)) (by simp) (fun d hd => by
    simp only [List.mem_cons, List.not_mem_nil, or_false] at hd
    rcases hd with rfl | rfl | rfl
    · exact ⟨_, ha⟩
    · exact ⟨_, hb⟩
    · exact ⟨_, hc⟩) (by simp only [List.map_cons, List.map_nil, walk, ha.rd, hb.rd, hc.rd]) rfl
def namesR : List D := [.str "ann", .str "b", .str "zzzzzzzz", .str "hear", .str "do"]
def countsR : List D := [.int 0, .int 7, .int 10, .int far]
def wordsR : List D := [.str "a", .str "abcd", .str "do", .str "tell"]
theorem pt_names : ∀ d ∈ namesR ++ [D.str "dig", D.str "a", D.str "bob"], Pt 2 d := fun d hd => pt_of (List.all_eq_true.mp (show (namesR ++ [D.str "dig", D.str "a", D.str "bob"]).all (pChk 2) = true by decide +kernel) d hd)
theorem pt_counts : ∀ d ∈ countsR ++ [D.int 2], Pt 0 d := fun d hd => pt_of (List.all_eq_true.mp (show (countsR ++ [D.int 2]).all (pChk 0) = true by decide +kernel) d hd)
theorem pt_words : ∀ d ∈ wordsR ++ [D.str "abcz", D.str "zz"], Pt 1 d := fun d hd => pt_of (List.all_eq_true.mp (show (wordsR ++ [D.str "abcz", D.str "zz"]).all (pChk 1) = true by decide +kernel) d hd)
def fixRows : List (List D) := [[.str "hear", .int 0, .str "a"], [.str "hear", .int far, .str "abcz"], [.str "do", .str "ann", .str "dig", .int 0], [.str "do", .str "zzzzzzzz", .str "a", .int far], [.str "tell", .str "dig", .str "bob", .int 2], [.str "tell", .str "a", .str "zzzzzzzz", .int far], [.str "hear", .int 10, .str "zz"]]
theorem fix_rows (s : Bxs) : f__law_fixed_rows [] s = .ok (.lst (fixRows.map .tup)) s := rfl
theorem gd_fix : ∀ ds ∈ fixRows, Gd ds := fun ds hd => by
  simp only [fixRows, List.mem_cons, List.not_mem_nil, or_false] at hd
  rcases hd with rfl | rfl | rfl | rfl | rfl | rfl | rfl
  · exact gd_hear (pt_counts _ (by simp [countsR])) (pt_words _ (by simp [wordsR]))
  · exact gd_hear (pt_counts _ (by simp [countsR])) (pt_words _ (by simp [wordsR]))
  · exact gd_do (.inl rfl) (pt_names _ (by simp [namesR])) (pt_names _ (by simp [namesR])) (pt_counts _ (by simp [countsR]))
  · exact gd_do (.inl rfl) (pt_names _ (by simp [namesR])) (pt_names _ (by simp [namesR])) (pt_counts _ (by simp [countsR]))
  · exact gd_do (.inr rfl) (pt_names _ (by simp [namesR])) (pt_names _ (by simp [namesR])) (pt_counts _ (by simp [countsR]))
  · exact gd_do (.inr rfl) (pt_names _ (by simp [namesR])) (pt_names _ (by simp [namesR])) (pt_counts _ (by simp [countsR]))
  · exact gd_hear (pt_counts _ (by simp [countsR])) (pt_words _ (by simp [wordsR]))
theorem p59 : opPow (.int 10) (.int 59) = some (.int far) := rfl
theorem anyrow {n : Nat} {s : Bxs} (h : Rg n s) (hn : n + 5 < 1000000) : ∃ (ds : List D) (s' : Bxs), f__law_random_any_row [.obj 0] s = .ok (.tup ds) s' ∧ Gd ds ∧ Rg (n + 5) s' := by
  have wk : ∀ {a b : Nat} {s : Bxs}, Rg a s → a ≤ b → Rg b s := fun {a b s} ⟨ns, x, r, c, e, h1, h2⟩ h3 => ⟨ns, x, r, c, e, h1, by omega⟩
  obtain ⟨i, s1, e1, i1, h1⟩ := drawN h (by omega) 4 (by omega) (by omega)
  obtain ⟨j, s2, e2, j1, h2⟩ := drawN h1 (by omega) 3 (by omega) (by omega)
  have e1 : f__law_draw [.obj 0, .int 4] s = .ok (.int (i : Int)) s1 := e1
  have e2 : f__law_draw [.obj 0, .int 3] s1 = .ok (.int (j : Int)) s2 := e2
  obtain ⟨c, hc, c1⟩ := ix_of countsR i i1
  have c1 : opIx (.lst [.int 0, .int 7, .int 10, .int far]) (.int (i : Int)) = some c := c1
  have pc := pt_counts c (List.mem_append_left _ hc)
  have qe (k : Int) : opEq (.int (j : Int)) (.int k) = some (.bl (decide ((j : Int) = k))) := opEq_int _ _
  unfold f__law_random_any_row m__law_random_any_row
  by_cases j0 : (j : Int) = 0
  · obtain ⟨k, s3, e3, k1, h3⟩ := drawN h2 (by omega) 4 (by omega) (by omega)
    have e3 : f__law_draw [.obj 0, .int 4] s2 = .ok (.int (k : Int)) s3 := e3
    obtain ⟨w, hw, w1⟩ := ix_of wordsR k k1
    have w1 : opIx (.lst [.str "a", .str "abcd", .str "do", .str "tell"]) (.int (k : Int)) = some w := w1
    refine ⟨[.str "hear", c, w], s3, ?_, gd_hear pc (pt_words w (List.mem_append_left _ hw)), wk h3 (by omega)⟩
    simp only [mDef, mDefN, env0, List.map_cons, List.map_nil, List.replicate, List.cons_append, List.nil_append, Nat.reduceSub, msSeq, msIf, msRet, msNil, msSet, msRetN, mVar, mVarW, mC, m1, m2, m2S, m2N, mtE, mtNot, mtOr, mtAnd, mAnd, mOr, mNot, mIf, mN, mTup, mLst, mCB, mCN, maCons, maNil, mCall, mCallN, arity, mSl, moN, moS, mLc, miSeq, R.bind_ok, R.bind_exc, R.bind_bad, R.ofO_some, R.ofO_none, List.getElem?_cons_zero, List.getElem?_cons_succ, List.set_cons_zero, List.set_cons_succ, List.length_cons, List.length_nil, Nat.reduceAdd, Nat.zero_add, if_true, reduceIte, asB, asI, Bool.true_eq_false, Bool.false_eq_true, if_false, Bool.not_true, Bool.not_false, Option.bind_some, Option.map_some, Nat.reduceLeDiff, Nat.zero_le, msPar, p59, e1, c1, e2, qe, decide_eq_true j0, e3, w1]
  · obtain ⟨k, s3, e3, k1, h3⟩ := drawN h2 (by omega) 2 (by omega) (by omega)
    have e3 : f__law_draw [.obj 0, .int 2] s2 = .ok (.int (k : Int)) s3 := e3
    obtain ⟨u, s4, e4, u1, h4⟩ := drawN h3 (by omega) 5 (by omega) (by omega)
    have e4 : f__law_draw [.obj 0, .int 5] s3 = .ok (.int (u : Int)) s4 := e4
    obtain ⟨v, s5, e5, v1, h5⟩ := drawN h4 (by omega) 5 (by omega) (by omega)
    have e5 : f__law_draw [.obj 0, .int 5] s4 = .ok (.int (v : Int)) s5 := e5
    obtain ⟨w, hw, w1⟩ := ix_of [.str "do", .str "tell"] k k1
    obtain ⟨a, ha, a1⟩ := ix_of namesR u u1
    obtain ⟨b, hb, b1⟩ := ix_of namesR v v1
    have a1 : opIx (.lst [.str "ann", .str "b", .str "zzzzzzzz", .str "hear", .str "do"]) (.int (u : Int)) = some a := a1
    have b1 : opIx (.lst [.str "ann", .str "b", .str "zzzzzzzz", .str "hear", .str "do"]) (.int (v : Int)) = some b := b1
    obtain ⟨z, rfl, hz⟩ : ∃ z : Str, w = .str z ∧ (z = "do" ∨ z = "tell") := by
      simp only [List.mem_cons, List.not_mem_nil, or_false] at hw
      rcases hw with rfl | rfl
      · exact ⟨_, rfl, .inl rfl⟩
      · exact ⟨_, rfl, .inr rfl⟩
    refine ⟨[.str z, a, b, c], s5, ?_, gd_do hz (pt_names a (List.mem_append_left _ ha)) (pt_names b (List.mem_append_left _ hb)) pc, wk h5 (by omega)⟩
    simp only [mDef, mDefN, env0, List.map_cons, List.map_nil, List.replicate, List.cons_append, List.nil_append, Nat.reduceSub, msSeq, msIf, msRet, msNil, msSet, msRetN, mVar, mVarW, mC, m1, m2, m2S, m2N, mtE, mtNot, mtOr, mtAnd, mAnd, mOr, mNot, mIf, mN, mTup, mLst, mCB, mCN, maCons, maNil, mCall, mCallN, arity, mSl, moN, moS, mLc, miSeq, R.bind_ok, R.bind_exc, R.bind_bad, R.ofO_some, R.ofO_none, List.getElem?_cons_zero, List.getElem?_cons_succ, List.set_cons_zero, List.set_cons_succ, List.length_cons, List.length_nil, Nat.reduceAdd, Nat.zero_add, if_true, reduceIte, asB, asI, Bool.true_eq_false, Bool.false_eq_true, if_false, Bool.not_true, Bool.not_false, Option.bind_some, Option.map_some, Nat.reduceLeDiff, Nat.zero_le, msPar, p59, e1, c1, e2, qe, decide_eq_false j0, e3, w1, e4, a1, e5, b1]
end K85

set_option maxRecDepth 100000
set_option maxHeartbeats 4000000
namespace K85
open PySem PySem.Spec PyProof.Rows L2 UH PySem.NumText

/-! ### the loop over the rows -/
theorem for_inv {t : Tgt} {b : MS} (I : Nat → En → Bxs → Prop) : ∀ (xs : List D) (k : Nat) (env : En) (s : Bxs), I k env s →
    (∀ x ∈ xs, ∀ j env s, k ≤ j → j < k + xs.length → I j env s → ∃ env1, t x env = some env1 ∧ ∃ env' s', b env1 s = .ok (.next env') s' ∧ I (j + 1) env' s') → ∃ env' s', forLoop t b env xs s = .ok (.next env') s' ∧ I (k + xs.length) env' s'
  | [], k, env, s, h, _ => ⟨env, s, rfl, h⟩
  | x :: r, k, env, s, h, hb => by
    obtain ⟨env1, h1, env', s', h2, h3⟩ := hb x List.mem_cons_self k env s (Nat.le_refl _) (by rw [List.length_cons]; omega) h
    obtain ⟨env2, s2, h4, h5⟩ := for_inv I r (k + 1) env' s' h3 fun y hy j e s a1 a2 hi => hb y (List.mem_cons_of_mem _ hy) j e s (by omega) (by rw [List.length_cons]; omega) hi
    refine ⟨env2, s2, ?_, by rw [List.length_cons, show k + (r.length + 1) = k + 1 + r.length by omega]; exact h5⟩
    unfold forLoop
    rw [h1]
    dsimp only
    rw [h2, R.bind_ok]
    exact h4
theorem read_row (x : Str) (s : Bxs) (hx : x.length + 2 ≤ sizeLine) : f_read_row [.str x] s = outX 0 s (readL x) := by
  unfold f_read_row m_read_row
  have e := entry x 0 s hx
  simp only [mDef, mDefN, env0, List.map_cons, List.map_nil, List.replicate, List.cons_append, List.nil_append, Nat.reduceSub, msSeq, msIf, msRet, msNil, msSet, msRetN, mVar, mVarW, mC, m1, m2, m2S, m2N, mtE, mtNot, mtOr, mtAnd, mAnd, mOr, mNot, mIf, mN, mTup, mLst, mCB, mCN, maCons, maNil, mCall, mCallN, arity, mSl, moN, moS, mLc, miSeq, R.bind_ok, R.bind_exc, R.bind_bad, R.ofO_some, R.ofO_none, List.getElem?_cons_zero, List.getElem?_cons_succ, List.set_cons_zero, List.set_cons_succ, List.length_cons, List.length_nil, Nat.reduceAdd, Nat.zero_add, if_true, reduceIte, asB, asI, Bool.true_eq_false, Bool.false_eq_true, if_false, Bool.not_true, Bool.not_false, Option.bind_some, Option.map_some, Nat.reduceLeDiff, Nat.zero_le, e]
  cases readL x <;> rfl
theorem out_row {env : En} {i : Nat} {y : Str} (s : Bxs) (h : env[i]? = some (.val (.str y))) (hy : y.length + 2 ≤ sizeLine) : mOut "returned" "NoText" 0 selW (mCall 1 f_read_row (maCons (mVar i) maNil)) env s = .ok (outE 0 (readL y)) s := by
  have e : mCall 1 f_read_row (maCons (mVar i) maNil) env s = outX 0 s (readL y) := by simp only [mDef, mDefN, env0, List.map_cons, List.map_nil, List.replicate, List.cons_append, List.nil_append, Nat.reduceSub, msSeq, msIf, msRet, msNil, msSet, msRetN, mVar, mVarW, mC, m1, m2, m2S, m2N, mtE, mtNot, mtOr, mtAnd, mAnd, mOr, mNot, mIf, mN, mTup, mLst, mCB, mCN, maCons, maNil, mCall, mCallN, arity, mSl, moN, moS, mLc, miSeq, R.bind_ok, R.bind_exc, R.bind_bad, R.ofO_some, R.ofO_none, List.getElem?_cons_zero, List.getElem?_cons_succ, List.set_cons_zero, List.set_cons_succ, List.length_cons, List.length_nil, Nat.reduceAdd, Nat.zero_add, if_true, reduceIte, asB, asI, Bool.true_eq_false, Bool.false_eq_true, if_false, Bool.not_true, Bool.not_false, Option.bind_some, Option.map_some, Nat.reduceLeDiff, Nat.zero_le, h, read_row y s hy]
  unfold mOut
  rw [e]
  cases readL y <;> rfl
theorem wkR {a b : Nat} {s : Bxs} : Rg a s → a ≤ b → Rg b s := fun ⟨ns, x, r, c, e, h1, h2⟩ h3 => ⟨ns, x, r, c, e, h1, by omega⟩
theorem outE_repr (n : Nat) (hn : n < 10 ^ 6) (x : Str) : fRepr [outE (n : Int) (readL x)] = some (.str (outE (n : Int) (readL x)).toP.shown) := (outE_sm n hn x).repr (by decide) (by decide)
def rowIf : MS := (msIf (mtE (m2 opNe (mCB fRepr (maCons (mOut "returned" "NoText" 0 selW (mCall 1 f_read_row (maCons (mVar 6) maNil))) maNil)) (mCB fRepr (maCons (mCall 2 f__law_expected_line (maCons (mVar 6) (maCons (mC (.int 0)) maNil))) maNil)))) (msRet (mC (.bl false))) msNil)
theorem row_if {i : Nat} {env : En} {y : Str} (s : Bxs) (h : env[i]? = some (.val (.str y))) (hy : y.length + 2 ≤ sizeLine) : (msIf (mtE (m2 opNe (mCB fRepr (maCons (mOut "returned" "NoText" 0 selW (mCall 1 f_read_row (maCons (mVar i) maNil))) maNil)) (mCB fRepr (maCons (mCall 2 f__law_expected_line (maCons (mVar i) (maCons (mC (.int 0)) maNil))) maNil)))) (msRet (mC (.bl false))) msNil) env s = .ok (.next env) s := by
  have e1 := out_row s h hy
  have e2 := expected y 0 s hy
  have e3 := outE_repr 0 (by decide) y
  have e3 : fRepr [outE 0 (readL y)] = some (.str (outE 0 (readL y)).toP.shown) := e3
  simp only [mDef, mDefN, env0, List.map_cons, List.map_nil, List.replicate, List.cons_append, List.nil_append, Nat.reduceSub, msSeq, msIf, msRet, msNil, msSet, msRetN, mVar, mVarW, mC, m1, m2, m2S, m2N, mtE, mtNot, mtOr, mtAnd, mAnd, mOr, mNot, mIf, mN, mTup, mLst, mCB, mCN, maCons, maNil, mCall, mCallN, arity, mSl, moN, moS, mLc, miSeq, R.bind_ok, R.bind_exc, R.bind_bad, R.ofO_some, R.ofO_none, List.getElem?_cons_zero, List.getElem?_cons_succ, List.set_cons_zero, List.set_cons_succ, List.length_cons, List.length_nil, Nat.reduceAdd, Nat.zero_add, if_true, reduceIte, asB, asI, Bool.true_eq_false, Bool.false_eq_true, if_false, Bool.not_true, Bool.not_false, Option.bind_some, Option.map_some, Nat.reduceLeDiff, Nat.zero_le, e1, h, e2, e3, ne_self]
def innerB : MS := (msSeq (msSet 6 (mCall 2 f__law_modified_line (maCons (mVar 0) (maCons (mVar 4) maNil))))
  (msSeq (msSet 6 (mIf (mtE (m2 opEq (mVar 3) (mC (.int 2)))) (mCall 2 f__law_modified_line (maCons (mVar 0) (maCons (mVar 6) maNil))) (mVar 6))) rowIf))
theorem inner {n : Nat} {s : Bxs} (h : Rg n s) (hn : n + 10 < 1000000) (rows stp svd : D) (k : Int) (x : Str) (hx : x.length ≤ 200) (e6 : Sl) : ∃ (y : Str) (s' : Bxs), innerB [.val (.obj 0), .val rows, .val stp, .val (.int k), .val (.str x), .val svd, e6] s =
    .ok (.next [.val (.obj 0), .val rows, .val stp, .val (.int k), .val (.str x), .val svd, .val (.str y)]) s' ∧ Rg (n + 10) s' := by
  obtain ⟨y, s1, d1, l1, h1⟩ := modline h (by omega) x (by omega)
  obtain ⟨z, s2, d2, l2, h2⟩ := modline h1 (by omega) y (by omega)
  have qe : opEq (.int k) (.int 2) = some (.bl (decide (k = 2))) := opEq_int _ _
  unfold innerB
  by_cases k2 : k = 2
  · have r := row_if (i := 6) (env := [.val (.obj 0), .val rows, .val stp, .val (.int k), .val (.str x), .val svd, .val (.str z)]) (y := z) s2 rfl (by rw [sizeLine_eq]; omega)
    refine ⟨z, s2, ?_, h2⟩
    simp only [mDef, mDefN, env0, List.map_cons, List.map_nil, List.replicate, List.cons_append, List.nil_append, Nat.reduceSub, msSeq, msIf, msRet, msNil, msSet, msRetN, mVar, mVarW, mC, m1, m2, m2S, m2N, mtE, mtNot, mtOr, mtAnd, mAnd, mOr, mNot, mIf, mN, mTup, mLst, mCB, mCN, maCons, maNil, mCall, mCallN, arity, mSl, moN, moS, mLc, miSeq, R.bind_ok, R.bind_exc, R.bind_bad, R.ofO_some, R.ofO_none, List.getElem?_cons_zero, List.getElem?_cons_succ, List.set_cons_zero, List.set_cons_succ, List.length_cons, List.length_nil, Nat.reduceAdd, Nat.zero_add, if_true, reduceIte, asB, asI, Bool.true_eq_false, Bool.false_eq_true, if_false, Bool.not_true, Bool.not_false, Option.bind_some, Option.map_some, Nat.reduceLeDiff, Nat.zero_le, d1, qe, decide_eq_true k2, d2]
    exact r
  · have r := row_if (i := 6) (env := [.val (.obj 0), .val rows, .val stp, .val (.int k), .val (.str x), .val svd, .val (.str y)]) (y := y) s1 rfl (by rw [sizeLine_eq]; omega)
    refine ⟨y, s1, ?_, wkR h1 (by omega)⟩
    simp only [mDef, mDefN, env0, List.map_cons, List.map_nil, List.replicate, List.cons_append, List.nil_append, Nat.reduceSub, msSeq, msIf, msRet, msNil, msSet, msRetN, mVar, mVarW, mC, m1, m2, m2S, m2N, mtE, mtNot, mtOr, mtAnd, mAnd, mOr, mNot, mIf, mN, mTup, mLst, mCB, mCN, maCons, maNil, mCall, mCallN, arity, mSl, moN, moS, mLc, miSeq, R.bind_ok, R.bind_exc, R.bind_bad, R.ofO_some, R.ofO_none, List.getElem?_cons_zero, List.getElem?_cons_succ, List.set_cons_zero, List.set_cons_succ, List.length_cons, List.length_nil, Nat.reduceAdd, Nat.zero_add, if_true, reduceIte, asB, asI, Bool.true_eq_false, Bool.false_eq_true, if_false, Bool.not_true, Bool.not_false, Option.bind_some, Option.map_some, Nat.reduceLeDiff, Nat.zero_le, d1, qe, decide_eq_false k2]
    exact r
def inner3 : MS := (msFor (miRange (maCons (mC (.int 3)) maNil)) (tgN 3) innerB)
theorem inner3_ok {n : Nat} {s : Bxs} (h : Rg n s) (hn : n + 40 < 1000000) (rows stp svd : D) (x : Str) (hx : x.length ≤ 200) (e3 e6 : Sl) : ∃ (e3' e6' : Sl) (s' : Bxs), inner3 [.val (.obj 0), .val rows, .val stp, e3, .val (.str x), .val svd, e6] s =
    .ok (.next [.val (.obj 0), .val rows, .val stp, e3', .val (.str x), .val svd, e6']) s' ∧ Rg (n + 30) s' := by
  obtain ⟨env', s', h1, ⟨a3, a6, e1, r1⟩⟩ := for_inv (t := tgN 3) (b := innerB) (fun j env s => ∃ a3 a6, env = [.val (.obj 0), .val rows, .val stp, a3, .val (.str x), .val svd, a6] ∧ Rg (n + 10 * j) s) [.int 0, .int 1, .int 2] 0 _ s ⟨e3, e6, rfl, h⟩ (fun d hd j env s a1 a2 ⟨b3, b6, eb, rb⟩ => by
    subst eb
    have a2 : j < 3 := by rw [Nat.zero_add] at a2; exact a2
    obtain ⟨k, rfl⟩ : ∃ k : Int, d = .int k := by
      simp only [List.mem_cons, List.not_mem_nil, or_false] at hd
      rcases hd with rfl | rfl | rfl <;> exact ⟨_, rfl⟩
    obtain ⟨y, s', f1, f2⟩ := inner rb (by omega) rows stp svd k x hx b6
    exact ⟨_, rfl, _, s', f1, _, _, rfl, by rw [show n + 10 * (j + 1) = n + 10 * j + 10 by omega]; exact f2⟩)
  refine ⟨a3, a6, s', ?_, wkR r1 (by show n + 10 * (0 + 3) ≤ _; omega)⟩
  rw [← e1]
  exact h1
def outerB : MS := (msSeq (msPar 4 5 (mCall 1 f__law_line_of (maCons (mVar 2) maNil)) (mCB fRepr (maCons (mVar 2) maNil)))
  (msSeq (msIf (mtOr (mtE (m2 opNe (mCall 1 f_row_line (maCons (mVar 2) maNil)) (mVar 4))) (mtOr (mtE (m2 opNe (mCallK 1 (fun _ es => es) 0 1 f_row_line maNil (maCons (mVar 2) maNil)) (mVar 4))) (mtE (m2 opNe (mCB fRepr (maCons (mVar 2) maNil)) (mVar 5))))) (msRet (mC (.bl false))) msNil)
  (msSeq (msIf (mtOr (mtE (m2 opNe (mCB fRepr (maCons (mCall 1 f_read_row (maCons (mVar 4) maNil)) maNil)) (mVar 5))) (mtE (m2 opNe (mCB fRepr (maCons (mCallK 1 (fun _ es => es) 0 1 f_read_row maNil (maCons (mVar 4) maNil)) maNil)) (mVar 5)))) (msRet (mC (.bl false))) msNil) inner3)))
theorem em_check : m__law_check_rows = (msSeq (msFor (miSeq (mVar 1)) (tgN 2) outerB) (msRet (mC (.bl true)))) := rfl
theorem line_same : f__law_line_of = f_row_line := rfl
theorem outer {n : Nat} {s : Bxs} (h : Rg n s) (hn : n + 40 < 1000000) (rows : D) (ds : List D) (hd : Gd ds) (e3 e4 e5 e6 : Sl) : ∃ (e3' e4' e5' e6' : Sl) (s' : Bxs), outerB [.val (.obj 0), .val rows, .val (.tup ds), e3, e4, e5, e6] s =
    .ok (.next [.val (.obj 0), .val rows, .val (.tup ds), e3', e4', e5', e6']) s' ∧ Rg (n + 30) s' := by
  obtain ⟨a3, a6, s', h1, h2⟩ := inner3_ok h hn rows (.tup ds) (.str (D.tup ds).toP.shown) (rowT ds) hd.len e3 e6
  have rp := hd.sm.repr (by decide) (by decide)
  have rr := read_row (rowT ds) s (by have := hd.len; rw [sizeLine_eq]; omega)
  rw [hd.rd] at rr
  have rr : f_read_row [.str (rowT ds)] s = .ok (.tup ds) s := rr
  refine ⟨a3, .val (.str (rowT ds)), .val (.str (D.tup ds).toP.shown), a6, s', ?_, h2⟩
  unfold outerB
  simp only [mDef, mDefN, env0, List.map_cons, List.map_nil, List.replicate, List.cons_append, List.nil_append, Nat.reduceSub, msSeq, msIf, msRet, msNil, msSet, msRetN, mVar, mVarW, mC, m1, m2, m2S, m2N, mtE, mtNot, mtOr, mtAnd, mAnd, mOr, mNot, mIf, mN, mTup, mLst, mCB, mCN, maCons, maNil, mCall, mCallN, arity, mSl, moN, moS, mLc, miSeq, R.bind_ok, R.bind_exc, R.bind_bad, R.ofO_some, R.ofO_none, List.getElem?_cons_zero, List.getElem?_cons_succ, List.set_cons_zero, List.set_cons_succ, List.length_cons, List.length_nil, Nat.reduceAdd, Nat.zero_add, if_true, reduceIte, asB, asI, Bool.true_eq_false, Bool.false_eq_true, if_false, Bool.not_true, Bool.not_false, Option.bind_some, Option.map_some, Nat.reduceLeDiff, Nat.zero_le, msPar, line_same, hd.line, rp, ne_self, mCallK, and_self, rr]
  exact h1
theorem check_rows {n : Nat} {s : Bxs} (h : Rg n s) (rows : List (List D)) (hn : n + 30 * rows.length + 50 < 1000000) (hr : ∀ ds ∈ rows, Gd ds) : ∃ s' : Bxs, f__law_check_rows [.obj 0, .lst (rows.map .tup)] s = .ok (.bl true) s' ∧ Rg (n + 30 * rows.length) s' := by
  obtain ⟨env', s', h1, ⟨a2, a3, a4, a5, a6, e1, r1⟩⟩ := for_inv (t := tgN 2) (b := outerB) (fun j env s => ∃ a2 a3 a4 a5 a6, env = [.val (.obj 0), .val (.lst (rows.map .tup)), a2, a3, a4, a5, a6] ∧ Rg (n + 30 * j) s) (rows.map .tup) 0 [.val (.obj 0), .val (.lst (rows.map .tup)), .none, .none, .none, .none, .none] s ⟨_, _, _, _, _, rfl, h⟩ (fun d hd j env s q1 q2 ⟨b2, b3, b4, b5, b6, eb, rb⟩ => by
    subst eb
    rw [List.length_map, Nat.zero_add] at q2
    obtain ⟨ds, hds, rfl⟩ := List.mem_map.mp hd
    obtain ⟨c3, c4, c5, c6, s', f1, f2⟩ := outer rb (by omega) (.lst (rows.map .tup)) ds (hr ds hds) b3 b4 b5 b6
    exact ⟨_, rfl, _, s', f1, _, _, _, _, _, rfl, by rw [show n + 30 * (j + 1) = n + 30 * j + 30 by omega]; exact f2⟩)
  subst e1
  refine ⟨s', ?_, by rw [List.length_map, Nat.zero_add] at r1; exact r1⟩
  unfold f__law_check_rows
  rw [em_check]
  simp only [mDef, mDefN, env0, List.map_cons, List.map_nil, List.replicate, List.cons_append, List.nil_append, Nat.reduceSub, msSeq, msIf, msRet, msNil, msSet, msRetN, mVar, mVarW, mC, m1, m2, m2S, m2N, mtE, mtNot, mtOr, mtAnd, mAnd, mOr, mNot, mIf, mN, mTup, mLst, mCB, mCN, maCons, maNil, mCall, mCallN, arity, mSl, moN, moS, mLc, miSeq, R.bind_ok, R.bind_exc, R.bind_bad, R.ofO_some, R.ofO_none, List.getElem?_cons_zero, List.getElem?_cons_succ, List.set_cons_zero, List.set_cons_succ, List.length_cons, List.length_nil, Nat.reduceAdd, Nat.zero_add, if_true, reduceIte, asB, asI, Bool.true_eq_false, Bool.false_eq_true, if_false, Bool.not_true, Bool.not_false, Option.bind_some, Option.map_some, Nat.reduceLeDiff, Nat.zero_le, msFor, seqD, h1]
end K85

set_option maxRecDepth 100000
set_option maxHeartbeats 4000000
namespace K85
open PySem PySem.Spec PyProof.Rows L2 UH PySem.NumText

/-! ### logs -/
theorem lc_rows (i : Nat) (env : En) (hi : i < env.length) (s : Bxs) (rows : List (List D)) (h : ∀ ds ∈ rows, Gd ds) : lcLoop [i] (tgN i) mtYes (mCall 1 f_row_line (maCons (mVar i) maNil)) env (rows.map .tup) s = .ok ((rows.map rowT).map .str) s := by
  rw [lc_ok (p := fun _ => true) (f := fun d => match d with | .tup ds => .str (rowT ds) | _ => .non)]
  · rw [List.filter_eq_self.mpr (fun _ _ => rfl), List.map_map, List.map_map]
    rfl
  · intro d hd
    obtain ⟨ds, hds, rfl⟩ := List.mem_map.mp hd
    have e : ((wipeE env [i]).set i (.val (.tup ds)))[i]? = some (.val (.tup ds)) := List.getElem?_set_self (by rw [wipe_len]; exact hi)
    refine ⟨_, rfl, rfl, fun _ => ?_⟩
    simp only [mDef, mDefN, env0, List.map_cons, List.map_nil, List.replicate, List.cons_append, List.nil_append, Nat.reduceSub, msSeq, msIf, msRet, msNil, msSet, msRetN, mVar, mVarW, mC, m1, m2, m2S, m2N, mtE, mtNot, mtOr, mtAnd, mAnd, mOr, mNot, mIf, mN, mTup, mLst, mCB, mCN, maCons, maNil, mCall, mCallN, arity, mSl, moN, moS, mLc, miSeq, R.bind_ok, R.bind_exc, R.bind_bad, R.ofO_some, R.ofO_none, List.getElem?_cons_zero, List.getElem?_cons_succ, List.set_cons_zero, List.set_cons_succ, List.length_cons, List.length_nil, Nat.reduceAdd, Nat.zero_add, if_true, reduceIte, asB, asI, Bool.true_eq_false, Bool.false_eq_true, if_false, Bool.not_true, Bool.not_false, Option.bind_some, Option.map_some, Nat.reduceLeDiff, Nat.zero_le, e, (h ds hds).line]
theorem log_lines (s : Bxs) (rows : List (List D)) (h : ∀ ds ∈ rows, Gd ds) : f_log_lines [.tup (rows.map .tup)] s = .ok ((rows.map rowT).map .str) s := by
  unfold f_log_lines m_log_lines
  simp only [mDef, mDefN, env0, List.map_cons, List.map_nil, List.replicate, List.cons_append, List.nil_append, Nat.reduceSub, msSeq, msIf, msRet, msNil, msSet, msRetN, mVar, mVarW, mC, m1, m2, m2S, m2N, mtE, mtNot, mtOr, mtAnd, mAnd, mOr, mNot, mIf, mN, mTup, mLst, mCB, mCN, maCons, maNil, mCall, mCallN, arity, mSl, moN, moS, mLc, miSeq, R.bind_ok, R.bind_exc, R.bind_bad, R.ofO_some, R.ofO_none, List.getElem?_cons_zero, List.getElem?_cons_succ, List.set_cons_zero, List.set_cons_succ, List.length_cons, List.length_nil, Nat.reduceAdd, Nat.zero_add, if_true, reduceIte, asB, asI, Bool.true_eq_false, Bool.false_eq_true, if_false, Bool.not_true, Bool.not_false, Option.bind_some, Option.map_some, Nat.reduceLeDiff, Nat.zero_le, seqD, lc_rows 1 [.val (.tup (rows.map .tup)), .none] (by show 1 < 2; decide) s rows h]
theorem lines_of (s : Bxs) (rows : List (List D)) (h : ∀ ds ∈ rows, Gd ds) : f__law_lines_of [.lst (rows.map .tup)] s = .ok ((rows.map rowT).map .str) s := by
  unfold f__law_lines_of m__law_lines_of
  simp only [mDef, mDefN, env0, List.map_cons, List.map_nil, List.replicate, List.cons_append, List.nil_append, Nat.reduceSub, msSeq, msIf, msRet, msNil, msSet, msRetN, mVar, mVarW, mC, m1, m2, m2S, m2N, mtE, mtNot, mtOr, mtAnd, mAnd, mOr, mNot, mIf, mN, mTup, mLst, mCB, mCN, maCons, maNil, mCall, mCallN, arity, mSl, moN, moS, mLc, miSeq, R.bind_ok, R.bind_exc, R.bind_bad, R.ofO_some, R.ofO_none, List.getElem?_cons_zero, List.getElem?_cons_succ, List.set_cons_zero, List.set_cons_succ, List.length_cons, List.length_nil, Nat.reduceAdd, Nat.zero_add, if_true, reduceIte, asB, asI, Bool.true_eq_false, Bool.false_eq_true, if_false, Bool.not_true, Bool.not_false, Option.bind_some, Option.map_some, Nat.reduceLeDiff, Nat.zero_le, seqD, line_same, lc_rows 1 [.val (.lst (rows.map .tup)), .none] (by show 1 < 2; decide) s rows h]
def readG : Nat → List Str → (Nat × Nat) ⊕ List D
  | _, [] => .inr []
  | i, t :: ts => match readL t with
    | .inl w => .inl (i, w)
    | .inr ds => match readG (i + 1) ts with
      | .inl q => .inl q
      | .inr es => .inr (.tup ds :: es)
def enumF (i : Nat) (ts : List Str) : List D := ((ts.map D.str).zipIdx i).map fun p => .tup [.int (p.2 : Int), p.1]
theorem enumF_cons (i : Nat) (t : Str) (ts : List Str) : enumF i (t :: ts) = .tup [.int (i : Int), .str t] :: enumF (i + 1) ts := rfl
theorem lc_log (env : En) (hl : env.length = 3) (s : Bxs) : ∀ (ts : List Str) (i : Nat), (∀ t ∈ ts, t.length + 2 ≤ sizeLine) → lcLoop [1, 2] (tgT 2 (tgCons (tgN 1) (tgCons (tgN 2) tgNil))) mtYes (mCall 2 f_entry_read (maCons (mVar 2) (maCons (mVar 1) maNil))) env (enumF i ts) s = match readG i ts with
    | .inl q => .exc 0 [.int (q.2 : Int), .int (q.1 : Int)] s
    | .inr es => .ok es s
  | [], i, _ => rfl
  | t :: ts, i, h => by
    have ih := lc_log env hl s ts (i + 1) fun x hx => h x (List.mem_cons_of_mem _ hx)
    have e := entry t (i : Int) s (h t List.mem_cons_self)
    have l1 : (wipeE env [1, 2]).length = 3 := by rw [wipe_len]; exact hl
    have e1 : (((wipeE env [1, 2]).set 1 (.val (.int (i : Int)))).set 2 (.val (.str t)))[1]? = some (.val (.int (i : Int))) := by rw [List.getElem?_set_ne (by decide), List.getElem?_set_self (by omega)]
    have e2 : (((wipeE env [1, 2]).set 1 (.val (.int (i : Int)))).set 2 (.val (.str t)))[2]? = some (.val (.str t)) := by rw [List.getElem?_set_self (by rw [List.length_set]; omega)]
    rw [enumF_cons]
    unfold lcLoop
    show (match ((some ((wipeE env [1, 2]).set 1 (.val (.int (i : Int))))).bind fun env' => (some (env'.set 2 (.val (.str t)))).bind fun env' => some env') with
      | none => R.bad
      | some env' => _) = _
    unfold readG
    cases hr : readL t with
    | inl w =>
      rw [hr] at e
      have e : f_entry_read [.str t, .int (i : Int)] s = .exc 0 [.int (w : Int), .int (i : Int)] s := e
      simp only [mDef, mDefN, env0, List.map_cons, List.map_nil, List.replicate, List.cons_append, List.nil_append, Nat.reduceSub, msSeq, msIf, msRet, msNil, msSet, msRetN, mVar, mVarW, mC, m1, m2, m2S, m2N, mtE, mtNot, mtOr, mtAnd, mAnd, mOr, mNot, mIf, mN, mTup, mLst, mCB, mCN, maCons, maNil, mCall, mCallN, arity, mSl, moN, moS, mLc, miSeq, R.bind_ok, R.bind_exc, R.bind_bad, R.ofO_some, R.ofO_none, List.getElem?_cons_zero, List.getElem?_cons_succ, List.set_cons_zero, List.set_cons_succ, List.length_cons, List.length_nil, Nat.reduceAdd, Nat.zero_add, if_true, reduceIte, asB, asI, Bool.true_eq_false, Bool.false_eq_true, if_false, Bool.not_true, Bool.not_false, Option.bind_some, Option.map_some, Nat.reduceLeDiff, Nat.zero_le, mtYes, e1, e2, e]
    | inr ds =>
      rw [hr] at e
      have e : f_entry_read [.str t, .int (i : Int)] s = .ok (.tup ds) s := e
      simp only [mDef, mDefN, env0, List.map_cons, List.map_nil, List.replicate, List.cons_append, List.nil_append, Nat.reduceSub, msSeq, msIf, msRet, msNil, msSet, msRetN, mVar, mVarW, mC, m1, m2, m2S, m2N, mtE, mtNot, mtOr, mtAnd, mAnd, mOr, mNot, mIf, mN, mTup, mLst, mCB, mCN, maCons, maNil, mCall, mCallN, arity, mSl, moN, moS, mLc, miSeq, R.bind_ok, R.bind_exc, R.bind_bad, R.ofO_some, R.ofO_none, List.getElem?_cons_zero, List.getElem?_cons_succ, List.set_cons_zero, List.set_cons_succ, List.length_cons, List.length_nil, Nat.reduceAdd, Nat.zero_add, if_true, reduceIte, asB, asI, Bool.true_eq_false, Bool.false_eq_true, if_false, Bool.not_true, Bool.not_false, Option.bind_some, Option.map_some, Nat.reduceLeDiff, Nat.zero_le, mtYes, e1, e2, e, ih]
      cases readG (i + 1) ts with
      | inl q => simp only [mDef, mDefN, env0, List.map_cons, List.map_nil, List.replicate, List.cons_append, List.nil_append, Nat.reduceSub, msSeq, msIf, msRet, msNil, msSet, msRetN, mVar, mVarW, mC, m1, m2, m2S, m2N, mtE, mtNot, mtOr, mtAnd, mAnd, mOr, mNot, mIf, mN, mTup, mLst, mCB, mCN, maCons, maNil, mCall, mCallN, arity, mSl, moN, moS, mLc, miSeq, R.bind_ok, R.bind_exc, R.bind_bad, R.ofO_some, R.ofO_none, List.getElem?_cons_zero, List.getElem?_cons_succ, List.set_cons_zero, List.set_cons_succ, List.length_cons, List.length_nil, Nat.reduceAdd, Nat.zero_add, if_true, reduceIte, asB, asI, Bool.true_eq_false, Bool.false_eq_true, if_false, Bool.not_true, Bool.not_false, Option.bind_some, Option.map_some, Nat.reduceLeDiff, Nat.zero_le]
      | inr es => simp only [mDef, mDefN, env0, List.map_cons, List.map_nil, List.replicate, List.cons_append, List.nil_append, Nat.reduceSub, msSeq, msIf, msRet, msNil, msSet, msRetN, mVar, mVarW, mC, m1, m2, m2S, m2N, mtE, mtNot, mtOr, mtAnd, mAnd, mOr, mNot, mIf, mN, mTup, mLst, mCB, mCN, maCons, maNil, mCall, mCallN, arity, mSl, moN, moS, mLc, miSeq, R.bind_ok, R.bind_exc, R.bind_bad, R.ofO_some, R.ofO_none, List.getElem?_cons_zero, List.getElem?_cons_succ, List.set_cons_zero, List.set_cons_succ, List.length_cons, List.length_nil, Nat.reduceAdd, Nat.zero_add, if_true, reduceIte, asB, asI, Bool.true_eq_false, Bool.false_eq_true, if_false, Bool.not_true, Bool.not_false, Option.bind_some, Option.map_some, Nat.reduceLeDiff, Nat.zero_le]
def outG : (Nat × Nat) ⊕ List D → D
  | .inl q => .tup [.str "NoText", .int (q.1 : Int), .int (q.2 : Int)]
  | .inr es => .tup [.str "returned", .tup es]
def rdG (s : Bxs) : (Nat × Nat) ⊕ List D → R D
  | .inl q => .exc 0 [.int (q.2 : Int), .int (q.1 : Int)] s
  | .inr es => .ok (.tup es) s
theorem read_log (ts : List Str) (s : Bxs) (h : ∀ t ∈ ts, t.length + 2 ≤ sizeLine) : f_read_log [.lst (ts.map .str)] s = rdG s (readG 0 ts) := by
  have e := lc_log [.val (.lst (ts.map .str)), .none, .none] rfl s ts 0 h
  have en : UH.enumD (ts.map .str) = enumF 0 ts := rfl
  unfold f_read_log m_read_log
  simp only [mDef, mDefN, env0, List.map_cons, List.map_nil, List.replicate, List.cons_append, List.nil_append, Nat.reduceSub, msSeq, msIf, msRet, msNil, msSet, msRetN, mVar, mVarW, mC, m1, m2, m2S, m2N, mtE, mtNot, mtOr, mtAnd, mAnd, mOr, mNot, mIf, mN, mTup, mLst, mCB, mCN, maCons, maNil, mCall, mCallN, arity, mSl, moN, moS, mLc, miSeq, R.bind_ok, R.bind_exc, R.bind_bad, R.ofO_some, R.ofO_none, List.getElem?_cons_zero, List.getElem?_cons_succ, List.set_cons_zero, List.set_cons_succ, List.length_cons, List.length_nil, Nat.reduceAdd, Nat.zero_add, if_true, reduceIte, asB, asI, Bool.true_eq_false, Bool.false_eq_true, if_false, Bool.not_true, Bool.not_false, Option.bind_some, Option.map_some, Nat.reduceLeDiff, Nat.zero_le, miEnum, fEnum, en, e]
  cases readG 0 ts with
  | inl q => simp only [mDef, mDefN, env0, List.map_cons, List.map_nil, List.replicate, List.cons_append, List.nil_append, Nat.reduceSub, msSeq, msIf, msRet, msNil, msSet, msRetN, mVar, mVarW, mC, m1, m2, m2S, m2N, mtE, mtNot, mtOr, mtAnd, mAnd, mOr, mNot, mIf, mN, mTup, mLst, mCB, mCN, maCons, maNil, mCall, mCallN, arity, mSl, moN, moS, mLc, miSeq, R.bind_ok, R.bind_exc, R.bind_bad, R.ofO_some, R.ofO_none, List.getElem?_cons_zero, List.getElem?_cons_succ, List.set_cons_zero, List.set_cons_succ, List.length_cons, List.length_nil, Nat.reduceAdd, Nat.zero_add, if_true, reduceIte, asB, asI, Bool.true_eq_false, Bool.false_eq_true, if_false, Bool.not_true, Bool.not_false, Option.bind_some, Option.map_some, Nat.reduceLeDiff, Nat.zero_le]; rfl
  | inr es => simp only [mDef, mDefN, env0, List.map_cons, List.map_nil, List.replicate, List.cons_append, List.nil_append, Nat.reduceSub, msSeq, msIf, msRet, msNil, msSet, msRetN, mVar, mVarW, mC, m1, m2, m2S, m2N, mtE, mtNot, mtOr, mtAnd, mAnd, mOr, mNot, mIf, mN, mTup, mLst, mCB, mCN, maCons, maNil, mCall, mCallN, arity, mSl, moN, moS, mLc, miSeq, R.bind_ok, R.bind_exc, R.bind_bad, R.ofO_some, R.ofO_none, List.getElem?_cons_zero, List.getElem?_cons_succ, List.set_cons_zero, List.set_cons_succ, List.length_cons, List.length_nil, Nat.reduceAdd, Nat.zero_add, if_true, reduceIte, asB, asI, Bool.true_eq_false, Bool.false_eq_true, if_false, Bool.not_true, Bool.not_false, Option.bind_some, Option.map_some, Nat.reduceLeDiff, Nat.zero_le, fTup]; rfl
def loopG : MS := (msSeq (msSet 4 (mCall 2 f__law_expected_line (maCons (mVar 3) (maCons (mVar 2) maNil))))
  (msSeq (msIf (mtE (m2 opEq (m2 opIx (mVar 4) (mC (.int 0))) (mC (.str "NoText")))) (msRet (mVar 4)) msNil)
  (msApp 1 (m2 opIx (mVar 4) (mC (.int 1))))))
theorem loopG_ok (pg : Sl) (s : Bxs) : ∀ (ts : List Str) (i : Nat) (found : List D) (a2 a3 a4 : Sl), found.length + ts.length ≤ 10000 → (∀ t ∈ ts, t.length + 2 ≤ sizeLine) → ∃ b2 b3 b4, forLoop (tgT 2 (tgCons (tgN 2) (tgCons (tgN 3) tgNil))) loopG [pg, .own found, a2, a3, a4] (enumF i ts) s = match readG i ts with
    | .inl q => .ok (.ret (.tup [.str "NoText", .int (q.1 : Int), .int (q.2 : Int)])) s
    | .inr es => .ok (.next [pg, .own (found ++ es), b2, b3, b4]) s
  | [], i, found, a2, a3, a4, _, _ => ⟨a2, a3, a4, by
      show R.ok _ s = R.ok (Fl.next [pg, .own (found ++ []), a2, a3, a4]) s
      rw [List.append_nil]⟩
  | t :: ts, i, found, a2, a3, a4, hl, h => by
    have e := expected t (i : Int) s (h t List.mem_cons_self)
    have hl' : found.length < sizeLine := by rw [sizeLine_eq]; rw [List.length_cons] at hl; omega
    rw [enumF_cons]
    have et : tgT 2 (tgCons (tgN 2) (tgCons (tgN 3) tgNil)) (D.tup [.int (i : Int), .str t]) [pg, .own found, a2, a3, a4] = some [pg, .own found, .val (.int (i : Int)), .val (.str t), a4] := rfl
    unfold forLoop readG
    rw [et]
    dsimp only
    cases hr : readL t with
    | inl w =>
      rw [hr] at e
      have e : f__law_expected_line [.str t, .int (i : Int)] s = .ok (.tup [.str "NoText", .int (i : Int), .int (w : Int)]) s := e
      have x0 (a b c : D) : opIx (.tup [a, b, c]) (.int 0) = some a := rfl
      have q : opEq (.str "NoText") (.str "NoText") = some (.bl true) := rfl
      refine ⟨a2, a3, a4, ?_⟩
      have hb : loopG [pg, .own found, .val (.int (i : Int)), .val (.str t), a4] s = .ok (.ret (.tup [.str "NoText", .int (i : Int), .int (w : Int)])) s := by
        unfold loopG
        simp only [mDef, mDefN, env0, List.map_cons, List.map_nil, List.replicate, List.cons_append, List.nil_append, Nat.reduceSub, msSeq, msIf, msRet, msNil, msSet, msRetN, mVar, mVarW, mC, m1, m2, m2S, m2N, mtE, mtNot, mtOr, mtAnd, mAnd, mOr, mNot, mIf, mN, mTup, mLst, mCB, mCN, maCons, maNil, mCall, mCallN, arity, mSl, moN, moS, mLc, miSeq, R.bind_ok, R.bind_exc, R.bind_bad, R.ofO_some, R.ofO_none, List.getElem?_cons_zero, List.getElem?_cons_succ, List.set_cons_zero, List.set_cons_succ, List.length_cons, List.length_nil, Nat.reduceAdd, Nat.zero_add, if_true, reduceIte, asB, asI, Bool.true_eq_false, Bool.false_eq_true, if_false, Bool.not_true, Bool.not_false, Option.bind_some, Option.map_some, Nat.reduceLeDiff, Nat.zero_le, e, x0, q]
      rw [hb]
      rfl
    | inr ds =>
      rw [hr] at e
      have e : f__law_expected_line [.str t, .int (i : Int)] s = .ok (.tup [.str "returned", .tup ds]) s := e
      have x0 (a b : D) : opIx (.tup [a, b]) (.int 0) = some a := rfl
      have x1 (a b : D) : opIx (.tup [a, b]) (.int 1) = some b := rfl
      have q : opEq (.str "returned") (.str "NoText") = some (.bl false) := rfl
      obtain ⟨b2, b3, b4, ih⟩ := loopG_ok pg s ts (i + 1) (found ++ [.tup ds]) (.val (.int (i : Int))) (.val (.str t)) (.val (.tup [.str "returned", .tup ds])) (by rw [List.length_append, List.length_singleton]; rw [List.length_cons] at hl; omega) fun x hx => h x (List.mem_cons_of_mem _ hx)
      refine ⟨b2, b3, b4, ?_⟩
      have hb : loopG [pg, .own found, .val (.int (i : Int)), .val (.str t), a4] s = .ok (.next [pg, .own (found ++ [.tup ds]), .val (.int (i : Int)), .val (.str t), .val (.tup [.str "returned", .tup ds])]) s := by
        unfold loopG
        simp only [mDef, mDefN, env0, List.map_cons, List.map_nil, List.replicate, List.cons_append, List.nil_append, Nat.reduceSub, msSeq, msIf, msRet, msNil, msSet, msRetN, mVar, mVarW, mC, m1, m2, m2S, m2N, mtE, mtNot, mtOr, mtAnd, mAnd, mOr, mNot, mIf, mN, mTup, mLst, mCB, mCN, maCons, maNil, mCall, mCallN, arity, mSl, moN, moS, mLc, miSeq, R.bind_ok, R.bind_exc, R.bind_bad, R.ofO_some, R.ofO_none, List.getElem?_cons_zero, List.getElem?_cons_succ, List.set_cons_zero, List.set_cons_succ, List.length_cons, List.length_nil, Nat.reduceAdd, Nat.zero_add, if_true, reduceIte, asB, asI, Bool.true_eq_false, Bool.false_eq_true, if_false, Bool.not_true, Bool.not_false, Option.bind_some, Option.map_some, Nat.reduceLeDiff, Nat.zero_le, e, x0, x1, q, msApp, hl']
      rw [hb, R.bind_ok]
      dsimp only
      rw [ih]
      cases readG (i + 1) ts with
      | inl q => rfl
      | inr es => simp
def forG : MS := msFor (miEnum (maCons (mVar 0) maNil)) (tgT 2 (tgCons (tgN 2) (tgCons (tgN 3) tgNil))) loopG
theorem em_log : m__law_expected_log = (msSeq (msNew 1 (mLst maNil)) (msSeq forG (msRet (mTup (maCons (mC (.str "returned")) (maCons (mCB fTup (maCons (mVarW 1) maNil)) maNil)))))) := rfl
theorem expected_log (ts : List Str) (s : Bxs) (hl : ts.length ≤ 10000) (h : ∀ t ∈ ts, t.length + 2 ≤ sizeLine) : f__law_expected_log [.lst (ts.map .str)] s = .ok (outG (readG 0 ts)) s := by
  obtain ⟨b2, b3, b4, e⟩ := loopG_ok (.val (.lst (ts.map .str))) s ts 0 [] .none .none .none (by rw [List.length_nil]; omega) h
  have hF : forG [.val (.lst (ts.map .str)), .own [], .none, .none, .none] s = _ := Eq.trans (by
    unfold forG msFor miEnum
    simp only [mDef, mDefN, env0, List.map_cons, List.map_nil, List.replicate, List.cons_append, List.nil_append, Nat.reduceSub, msSeq, msIf, msRet, msNil, msSet, msRetN, mVar, mVarW, mC, m1, m2, m2S, m2N, mtE, mtNot, mtOr, mtAnd, mAnd, mOr, mNot, mIf, mN, mTup, mLst, mCB, mCN, maCons, maNil, mCall, mCallN, arity, mSl, moN, moS, mLc, miSeq, R.bind_ok, R.bind_exc, R.bind_bad, R.ofO_some, R.ofO_none, List.getElem?_cons_zero, List.getElem?_cons_succ, List.set_cons_zero, List.set_cons_succ, List.length_cons, List.length_nil, Nat.reduceAdd, Nat.zero_add, if_true, reduceIte, asB, asI, Bool.true_eq_false, Bool.false_eq_true, if_false, Bool.not_true, Bool.not_false, Option.bind_some, Option.map_some, Nat.reduceLeDiff, Nat.zero_le, fEnum]
    rfl) e
  unfold f__law_expected_log
  rw [em_log]
  simp only [mDef, mDefN, env0, List.map_cons, List.map_nil, List.replicate, List.cons_append, List.nil_append, Nat.reduceSub, msSeq, msIf, msRet, msNil, msSet, msRetN, mVar, mVarW, mC, m1, m2, m2S, m2N, mtE, mtNot, mtOr, mtAnd, mAnd, mOr, mNot, mIf, mN, mTup, mLst, mCB, mCN, maCons, maNil, mCall, mCallN, arity, mSl, moN, moS, mLc, miSeq, R.bind_ok, R.bind_exc, R.bind_bad, R.ofO_some, R.ofO_none, List.getElem?_cons_zero, List.getElem?_cons_succ, List.set_cons_zero, List.set_cons_succ, List.length_cons, List.length_nil, Nat.reduceAdd, Nat.zero_add, if_true, reduceIte, asB, asI, Bool.true_eq_false, Bool.false_eq_true, if_false, Bool.not_true, Bool.not_false, Option.bind_some, Option.map_some, Nat.reduceLeDiff, Nat.zero_le, msNew, hF]
  cases readG 0 ts with
  | inl q => simp only [mDef, mDefN, env0, List.map_cons, List.map_nil, List.replicate, List.cons_append, List.nil_append, Nat.reduceSub, msSeq, msIf, msRet, msNil, msSet, msRetN, mVar, mVarW, mC, m1, m2, m2S, m2N, mtE, mtNot, mtOr, mtAnd, mAnd, mOr, mNot, mIf, mN, mTup, mLst, mCB, mCN, maCons, maNil, mCall, mCallN, arity, mSl, moN, moS, mLc, miSeq, R.bind_ok, R.bind_exc, R.bind_bad, R.ofO_some, R.ofO_none, List.getElem?_cons_zero, List.getElem?_cons_succ, List.set_cons_zero, List.set_cons_succ, List.length_cons, List.length_nil, Nat.reduceAdd, Nat.zero_add, if_true, reduceIte, asB, asI, Bool.true_eq_false, Bool.false_eq_true, if_false, Bool.not_true, Bool.not_false, Option.bind_some, Option.map_some, Nat.reduceLeDiff, Nat.zero_le]; rfl
  | inr es => simp only [mDef, mDefN, env0, List.map_cons, List.map_nil, List.replicate, List.cons_append, List.nil_append, Nat.reduceSub, msSeq, msIf, msRet, msNil, msSet, msRetN, mVar, mVarW, mC, m1, m2, m2S, m2N, mtE, mtNot, mtOr, mtAnd, mAnd, mOr, mNot, mIf, mN, mTup, mLst, mCB, mCN, maCons, maNil, mCall, mCallN, arity, mSl, moN, moS, mLc, miSeq, R.bind_ok, R.bind_exc, R.bind_bad, R.ofO_some, R.ofO_none, List.getElem?_cons_zero, List.getElem?_cons_succ, List.set_cons_zero, List.set_cons_succ, List.length_cons, List.length_nil, Nat.reduceAdd, Nat.zero_add, if_true, reduceIte, asB, asI, Bool.true_eq_false, Bool.false_eq_true, if_false, Bool.not_true, Bool.not_false, Option.bind_some, Option.map_some, Nat.reduceLeDiff, Nat.zero_le, fTup]; rfl
theorem readG_sm : ∀ (ts : List Str) (i : Nat), match readG i ts with
    | .inl q => q.1 < i + ts.length ∧ q.2 ≤ 5
    | .inr es => (∀ d ∈ es, Sm 1 36 d) ∧ es.length = ts.length
  | [], i => ⟨fun d hd => (by cases hd), rfl⟩
  | t :: ts, i => by
    have a := readL_sm t
    have ih := readG_sm ts (i + 1)
    unfold readG
    revert a
    cases readL t with
    | inl w => intro a; exact ⟨by rw [List.length_cons]; show i < _; omega, a⟩
    | inr ds =>
      intro a
      dsimp only
      revert ih
      cases readG (i + 1) ts with
      | inl q => intro ih; exact ⟨by rw [List.length_cons]; have := ih.1; omega, ih.2⟩
      | inr es =>
        intro ih
        refine ⟨fun d hd => ?_, by rw [List.length_cons, List.length_cons, ih.2]⟩
        rcases List.mem_cons.mp hd with rfl | hd
        · exact Sm.tup a.1 a.2
        · exact ih.1 d hd
theorem outG_sm (ts : List Str) (hl : ts.length ≤ 1000) : Sm 3 80000 (outG (readG 0 ts)) := by
  have h := readG_sm ts 0
  revert h
  cases readG 0 ts with
  | inl q =>
    intro h
    have h1 : q.1 < 0 + ts.length := h.1
    refine ((Sm.tup (k := 0) (B := 8) (m := 3) (fun d hd => ?_) (Nat.le_refl _)).mono (by decide) (by decide) : Sm 3 80000 (.tup [.str "NoText", .int (q.1 : Int), .int (q.2 : Int)]))
    simp only [List.mem_cons, List.not_mem_nil, or_false] at hd
    rcases hd with rfl | rfl | rfl
    · exact Sm.lit (by decide) (by decide)
    · exact (Sm.int (Nat.lt_of_lt_of_le h1 (by omega))).mono (by decide) (by decide)
    · exact (Sm.int (Nat.lt_of_le_of_lt h.2 (by decide))).mono (by decide) (by decide)
  | inr es =>
    intro h
    refine ((Sm.tup (k := 2) (B := 37000) (m := 2) (fun d hd => ?_) (Nat.le_refl _)).mono (by decide) (by decide) : Sm 3 80000 (.tup [.str "returned", .tup es]))
    simp only [List.mem_cons, List.not_mem_nil, or_false] at hd
    rcases hd with rfl | rfl
    · exact (Sm.lit (B := 8) (by decide) (by decide)).mono (by decide) (by decide)
    · exact (Sm.tup (m := 1000) h.1 (by rw [h.2]; exact hl)).mono (by decide) (by decide)
theorem out_log {env : En} {i : Nat} {ts : List Str} (s : Bxs) (h : env[i]? = some (.val (.lst (ts.map .str)))) (ht : ∀ t ∈ ts, t.length + 2 ≤ sizeLine) : mOut "returned" "NoText" 0 selW (mCall 1 f_read_log (maCons (mVar i) maNil)) env s = .ok (outG (readG 0 ts)) s := by
  have e : mCall 1 f_read_log (maCons (mVar i) maNil) env s = rdG s (readG 0 ts) := by simp only [mDef, mDefN, env0, List.map_cons, List.map_nil, List.replicate, List.cons_append, List.nil_append, Nat.reduceSub, msSeq, msIf, msRet, msNil, msSet, msRetN, mVar, mVarW, mC, m1, m2, m2S, m2N, mtE, mtNot, mtOr, mtAnd, mAnd, mOr, mNot, mIf, mN, mTup, mLst, mCB, mCN, maCons, maNil, mCall, mCallN, arity, mSl, moN, moS, mLc, miSeq, R.bind_ok, R.bind_exc, R.bind_bad, R.ofO_some, R.ofO_none, List.getElem?_cons_zero, List.getElem?_cons_succ, List.set_cons_zero, List.set_cons_succ, List.length_cons, List.length_nil, Nat.reduceAdd, Nat.zero_add, if_true, reduceIte, asB, asI, Bool.true_eq_false, Bool.false_eq_true, if_false, Bool.not_true, Bool.not_false, Option.bind_some, Option.map_some, Nat.reduceLeDiff, Nat.zero_le, h, read_log ts s ht]
  unfold mOut
  rw [e]
  cases readG 0 ts <;> rfl
end K85

set_option maxRecDepth 100000
set_option maxHeartbeats 4000000
namespace K85
open PySem PySem.Spec PyProof.Rows L2 UH PySem.NumText

/-! ### the law, stage by stage -/
def G0 : MS := (msBox 1 (mCallN 1 f__law_random_source (maCons (mVar 0) maNil)))
def G1 : MS := (msSet 2 (m2 opAddL (mCall 0 f__law_fixed_rows maNil) (mN (mLc (miRange (maCons (mC (.int 14)) maNil)) (([("_law_lap", 11)] : List (Str × Nat)).map (·.2)) (tgN 11) mtYes (mCall 1 f__law_random_any_row (maCons (mVar 1) maNil))))))
def G2 : MS := (msIf (mtNot (mtE (mCall 2 f__law_check_rows (maCons (mVar 1) (maCons (mVar 2) maNil))))) (msRet (mC (.bl false))) msNil)
def G3 : MS := (msSet 3 (mN (mLst (maCons (mC (.str "")) (maCons (mC (.str " ")) (maCons (mC (.str "hear")) (maCons (mC (.str "hear 0")) (maCons (mC (.str "hear a 0")) (maCons (mC (.str "do ann dig")) (maCons (mC (.str "do ann dig 0 0")) (maCons (m2 opAddL (mC (.str "tell dig bob ")) (m2 opMulS (mC (.str "9")) (mC (.int 61)))) (maCons (mC (.str "undo")) maNil))))))))))))
def G4 : MS := (msSet 3 (m2 opAddL (mVar 3) (mN (mLst (maCons (mC (.str "hear 0 a\n")) (maCons (mC (.str "do ann dig 0\n")) (maCons (mC (.str "\nhear 0 a")) (maCons (mC (.str "hear 0 a\nhear 1 b")) (maCons (mC (.str "hear 1_0 a")) (maCons (mC (.str "hear +7 a")) maNil))))))))))
def G5 : MS := (msSet 3 (m2 opAddL (mVar 3) (mN (mLst (maCons (mC (.str "hear 7\n a")) (maCons (mC (.str "do ann\n dig 0")) (maCons (mC (.str "tell dig bob 1_0")) (maCons (mC (.str "tell dig\n bob 0")) (maCons (mC (.str "do ann dig +1")) maNil)))))))))
def G6 : MS := (msFor (miSeq (m2 opAddL (mVar 3) (mN (mLst (maCons (mC (.str "hear 00 a")) (maCons (mC (.str "Hear 0 a")) (maCons (mC (.str " hear 0 a")) (maCons (mC (.str "hear 0 abcde")) (maCons (mC (.str "hear 0  a")) (maCons (mC (.str "do ann abcdefghi 0")) maNil)))))))))) (tgN 4) (msIf (mtE (m2 opNe (mCB fRepr (maCons (mOut "returned" "NoText" 0 selW (mCall 1 f_read_row (maCons (mVar 4) maNil))) maNil)) (mCB fRepr (maCons (mCall 2 f__law_expected_line (maCons (mVar 4) (maCons (mC (.int 0)) maNil))) maNil)))) (msRet (mC (.bl false))) msNil))
def G7 : MS := (msPar 7 8 (mCB fTup (maCons (mVar 2) maNil)) (mN (mCallN 1 f__law_lines_of (maCons (mVar 2) maNil))))
def G8 : MS := (msNew 5 (mCallN 1 f_log_lines (maCons (mVar 7) maNil)))
def G9 : MS := (msIf (mtOr (mtE (m2 opNe (mVarW 5) (mVar 8))) (mtOr (mtE (m2 opNe (mN (mCallKN 1 (fun _ es => es) 0 1 f_log_lines maNil (maCons (mVar 7) maNil))) (mVar 8))) (mtE (m2 opNe (mCB fRepr (maCons (mCall 1 f_read_log (maCons (mVar 8) maNil)) maNil)) (mCB fRepr (maCons (mVar 7) maNil)))))) (msRet (mC (.bl false))) msNil)
def G10 : MS := (msApp 5 (mC (.str "hear 0 a")))
def G11 : MS := (msSetIx 5 (mC (.int 0)) (mC (.str "")))
def G12 : MS := (msIf (mtE (m2 opNe (mN (mCallN 1 f_log_lines (maCons (mVar 7) maNil))) (mVar 8))) (msRet (mC (.bl false))) msNil)
def G13 : MS := (msFor (miRange (maCons (mC (.int 14)) maNil)) (tgN 6) (msSeq (msSet 9 (mCall 2 f__law_modified_lines (maCons (mVar 1) (maCons (mVar 8) maNil))))
  (msSeq (msSet 9 (mIf (mtOr (mtE (m2 opEq (m2 opMod (mVar 6) (mC (.int 2))) (mC (.int 0)))) (mtE (m2 opEq (mVar 9) (mN (mLst maNil))))) (mVar 9) (mCall 2 f__law_modified_lines (maCons (mVar 1) (maCons (mVar 9) maNil)))))
  (msSeq (msSet 10 (mN (mCN fList (maCons (mVar 9) maNil))))
  (msIf (mtOr (mtE (m2 opNe (mCB fRepr (maCons (mOut "returned" "NoText" 0 selW (mCall 1 f_read_log (maCons (mVar 9) maNil))) maNil)) (mCB fRepr (maCons (mCall 1 f__law_expected_log (maCons (mVar 9) maNil)) maNil)))) (mtE (m2 opNe (mVar 9) (mVar 10)))) (msRet (mC (.bl false))) msNil)))))
def G14 : MS := (msRet (mAnd (m2 opEq (mOut "returned" "NoText" 0 selW (mCallK 1 (fun _ es => es) 0 1 f_read_log maNil (maCons (mN (mLst maNil)) maNil))) (mTup (maCons (mC (.str "returned")) (maCons (mTup maNil) maNil)))) (m2 opEq (mN (mCallN 1 f_log_lines (maCons (mTup maNil) maNil))) (mN (mLst maNil)))))
theorem em_law : m_law = (msSeq G0 (msSeq G1 (msSeq G2 (msSeq G3 (msSeq G4 (msSeq G5 (msSeq G6 (msSeq G7 (msSeq G8 (msSeq G9 (msSeq G10 (msSeq G11 (msSeq G12 (msSeq G13 G14)))))))))))))) := rfl
theorem lc_any (env : En) (hl : env.length = 12) (h1 : env[1]? = some (.val (.obj 0))) : ∀ (xs : List D) (n : Nat) (s : Bxs), Rg n s → n + 5 * xs.length + 5 < 1000000 → ∃ (rows : List (List D)) (s' : Bxs), lcLoop [11] (tgN 11) mtYes (mCall 1 f__law_random_any_row (maCons (mVar 1) maNil)) env xs s = .ok (rows.map .tup) s' ∧ rows.length = xs.length ∧ (∀ ds ∈ rows, Gd ds) ∧ Rg (n + 5 * xs.length) s'
  | [], n, s, h, _ => ⟨[], s, rfl, rfl, (fun d hd => by cases hd), h⟩
  | x :: xs, n, s, h, hn => by
    rw [List.length_cons] at hn
    obtain ⟨ds, s1, e1, g1, r1⟩ := anyrow h (by omega)
    obtain ⟨rows, s2, e2, g2, g3, r2⟩ := lc_any env hl h1 xs (n + 5) s1 r1 (by omega)
    refine ⟨ds :: rows, s2, ?_, by rw [List.length_cons, List.length_cons, g2], fun d hd => ?_, wkR r2 (by rw [List.length_cons]; omega)⟩
    · have q : ((wipeE env [11]).set 11 (.val x))[1]? = some (.val (.obj 0)) := by
        show ((env.set 11 .none).set 11 (.val x))[1]? = _
        rw [List.getElem?_set_ne (by decide), List.getElem?_set_ne (by decide)]
        exact h1
      unfold lcLoop
      show (match (some ((wipeE env [11]).set 11 (.val x))) with
        | none => R.bad
        | some env' => _) = _
      simp only [mDef, mDefN, env0, List.map_cons, List.map_nil, List.replicate, List.cons_append, List.nil_append, Nat.reduceSub, msSeq, msIf, msRet, msNil, msSet, msRetN, mVar, mVarW, mC, m1, m2, m2S, m2N, mtE, mtNot, mtOr, mtAnd, mAnd, mOr, mNot, mIf, mN, mTup, mLst, mCB, mCN, maCons, maNil, mCall, mCallN, arity, mSl, moN, moS, mLc, miSeq, R.bind_ok, R.bind_exc, R.bind_bad, R.ofO_some, R.ofO_none, List.getElem?_cons_zero, List.getElem?_cons_succ, List.set_cons_zero, List.set_cons_succ, List.length_cons, List.length_nil, Nat.reduceAdd, Nat.zero_add, if_true, reduceIte, asB, asI, Bool.true_eq_false, Bool.false_eq_true, if_false, Bool.not_true, Bool.not_false, Option.bind_some, Option.map_some, Nat.reduceLeDiff, Nat.zero_le, mtYes, q, e1, e2]
    · rcases List.mem_cons.mp hd with rfl | hd
      · exact g1
      · exact g3 d hd
theorem g0 (sc : List Int) : G0 [.val (.lst (sc.map .int)), .none, .none, .none, .none, .none, .none, .none, .none, .none, .none, .none] [] = .ok (.next [.val (.lst (sc.map .int)), .val (.obj 0), .none, .none, .none, .none, .none, .none, .none, .none, .none, .none]) (rg (sc.take 63) 0 0 0) := by
  have e : opSl (.lst (sc.map .int)) none (some 63) = some (.lst ((sc.take 63).map .int)) := by
    show some (D.lst (UH.cutD _ _ _)) = _
    unfold UH.cutD
    rw [show (some (63 : Int)) = some ((63 : Nat) : Int) from rfl, HT.sIx_nat, HT.sIx_none, List.drop_zero, List.length_map, Nat.sub_zero, ← List.map_take]
    congr 3
    rw [List.take_eq_take_iff]
    omega
  unfold G0 msBox f__law_random_source m__law_random_source
  simp only [mDef, mDefN, env0, List.map_cons, List.map_nil, List.replicate, List.cons_append, List.nil_append, Nat.reduceSub, msSeq, msIf, msRet, msNil, msSet, msRetN, mVar, mVarW, mC, m1, m2, m2S, m2N, mtE, mtNot, mtOr, mtAnd, mAnd, mOr, mNot, mIf, mN, mTup, mLst, mCB, mCN, maCons, maNil, mCall, mCallN, arity, mSl, moN, moS, mLc, miSeq, R.bind_ok, R.bind_exc, R.bind_bad, R.ofO_some, R.ofO_none, List.getElem?_cons_zero, List.getElem?_cons_succ, List.set_cons_zero, List.set_cons_succ, List.length_cons, List.length_nil, Nat.reduceAdd, Nat.zero_add, if_true, reduceIte, asB, asI, Bool.true_eq_false, Bool.false_eq_true, if_false, Bool.not_true, Bool.not_false, Option.bind_some, Option.map_some, Nat.reduceLeDiff, Nat.zero_le, e, List.length_nil]
  rfl
theorem g1 (sc : List Int) {n : Nat} {s : Bxs} (h : Rg n s) (hn : n + 100 < 1000000) : ∃ (rows : List (List D)) (s' : Bxs), G1 [.val (.lst (sc.map .int)), .val (.obj 0), .none, .none, .none, .none, .none, .none, .none, .none, .none, .none] s = .ok (.next [.val (.lst (sc.map .int)), .val (.obj 0), .val (.lst (rows.map .tup)), .none, .none, .none, .none, .none, .none, .none, .none, .none]) s' ∧ rows.length = 21 ∧ (∀ ds ∈ rows, Gd ds) ∧ Rg (n + 70) s' := by
  obtain ⟨rows, s', e1, l1, gd, r1⟩ := lc_any [.val (.lst (sc.map .int)), .val (.obj 0), .none, .none, .none, .none, .none, .none, .none, .none, .none, .none] rfl rfl ((List.range 14).map fun (i : Nat) => D.int (i : Int)) n s h (by show n + 5 * 14 + 5 < _; omega)
  have l1 : rows.length = 14 := l1
  refine ⟨fixRows ++ rows, s', ?_, by rw [List.length_append, l1]; rfl, fun ds hd => ?_, r1⟩
  · have ad : opAddL (.lst (fixRows.map .tup)) (.lst (rows.map .tup)) = some (.lst ((fixRows ++ rows).map .tup)) := by
      show (if _ then _ else _) = _
      rw [if_pos (by rw [List.length_map, List.length_map, l1, sizeLine_eq]; decide), List.map_append]
    have mr : miRange (maCons (mC (.int 14)) maNil) [.val (.lst (sc.map .int)), .val (.obj 0), .none, .none, .none, .none, .none, .none, .none, .none, .none, .none] s = .ok ((List.range 14).map fun (i : Nat) => D.int (i : Int)) s := rfl
    unfold G1
    simp only [mDef, mDefN, env0, List.map_cons, List.map_nil, List.replicate, List.cons_append, List.nil_append, Nat.reduceSub, msSeq, msIf, msRet, msNil, msSet, msRetN, mVar, mVarW, mC, m1, m2, m2S, m2N, mtE, mtNot, mtOr, mtAnd, mAnd, mOr, mNot, mIf, mN, mTup, mLst, mCB, mCN, maCons, maNil, mCall, mCallN, arity, mSl, moN, moS, mLc, miSeq, R.bind_ok, R.bind_exc, R.bind_bad, R.ofO_some, R.ofO_none, List.getElem?_cons_zero, List.getElem?_cons_succ, List.set_cons_zero, List.set_cons_succ, List.length_cons, List.length_nil, Nat.reduceAdd, Nat.zero_add, if_true, reduceIte, asB, asI, Bool.true_eq_false, Bool.false_eq_true, if_false, Bool.not_true, Bool.not_false, Option.bind_some, Option.map_some, Nat.reduceLeDiff, Nat.zero_le, fix_rows, mr, e1, ad]
  · rcases List.mem_append.mp hd with hd | hd
    · exact gd_fix ds hd
    · exact gd ds hd
theorem g2 (a : D) {n : Nat} {s : Bxs} (h : Rg n s) (rows : List (List D)) (hn : n + 30 * rows.length + 50 < 1000000) (hr : ∀ ds ∈ rows, Gd ds) : ∃ s' : Bxs, G2 [.val a, .val (.obj 0), .val (.lst (rows.map .tup)), .none, .none, .none, .none, .none, .none, .none, .none, .none] s = .ok (.next [.val a, .val (.obj 0), .val (.lst (rows.map .tup)), .none, .none, .none, .none, .none, .none, .none, .none, .none]) s' ∧ Rg (n + 30 * rows.length) s' := by
  obtain ⟨s', e, r⟩ := check_rows h rows hn hr
  refine ⟨s', ?_, r⟩
  unfold G2
  simp only [mDef, mDefN, env0, List.map_cons, List.map_nil, List.replicate, List.cons_append, List.nil_append, Nat.reduceSub, msSeq, msIf, msRet, msNil, msSet, msRetN, mVar, mVarW, mC, m1, m2, m2S, m2N, mtE, mtNot, mtOr, mtAnd, mAnd, mOr, mNot, mIf, mN, mTup, mLst, mCB, mCN, maCons, maNil, mCall, mCallN, arity, mSl, moN, moS, mLc, miSeq, R.bind_ok, R.bind_exc, R.bind_bad, R.ofO_some, R.ofO_none, List.getElem?_cons_zero, List.getElem?_cons_succ, List.set_cons_zero, List.set_cons_succ, List.length_cons, List.length_nil, Nat.reduceAdd, Nat.zero_add, if_true, reduceIte, asB, asI, Bool.true_eq_false, Bool.false_eq_true, if_false, Bool.not_true, Bool.not_false, Option.bind_some, Option.map_some, Nat.reduceLeDiff, Nat.zero_le, e]
def nin : Str := ⟨(List.replicate 61 (Str.ofString "9").cps).foldl (· ++ ·) #[]⟩
def p8 : Str := Str.ofString "tell dig bob " ++ nin
def pagesA : List D := [.str "", .str " ", .str "hear", .str "hear 0", .str "hear a 0", .str "do ann dig", .str "do ann dig 0 0", .str p8, .str "undo"]
def pagesB : List D := [.str "hear 0 a\n", .str "do ann dig 0\n", .str "\nhear 0 a", .str "hear 0 a\nhear 1 b", .str "hear 1_0 a", .str "hear +7 a"]
def pagesC : List D := [.str "hear 7\n a", .str "do ann\n dig 0", .str "tell dig bob 1_0", .str "tell dig\n bob 0", .str "do ann dig +1"]
def pagesD : List D := [.str "hear 00 a", .str "Hear 0 a", .str " hear 0 a", .str "hear 0 abcde", .str "hear 0  a", .str "do ann abcdefghi 0"]
theorem nines : m2 opAddL (mC (.str "tell dig bob ")) (m2 opMulS (mC (.str "9")) (mC (.int 61))) = fun _ s => .ok (.str p8) s := by
  have e : opMulS (.str "9") (.int 61) = some (.str nin) := by
    dsimp only [opMulS, opRepS]
    rw [if_pos (by decide)]
    rfl
  have e2 : opAddL (.str "tell dig bob ") (.str nin) = some (.str p8) := addL_str "tell dig bob " nin (by decide +kernel)
  funext env s
  simp only [mDef, mDefN, env0, List.map_cons, List.map_nil, List.replicate, List.cons_append, List.nil_append, Nat.reduceSub, msSeq, msIf, msRet, msNil, msSet, msRetN, mVar, mVarW, mC, m1, m2, m2S, m2N, mtE, mtNot, mtOr, mtAnd, mAnd, mOr, mNot, mIf, mN, mTup, mLst, mCB, mCN, maCons, maNil, mCall, mCallN, arity, mSl, moN, moS, mLc, miSeq, R.bind_ok, R.bind_exc, R.bind_bad, R.ofO_some, R.ofO_none, List.getElem?_cons_zero, List.getElem?_cons_succ, List.set_cons_zero, List.set_cons_succ, List.length_cons, List.length_nil, Nat.reduceAdd, Nat.zero_add, if_true, reduceIte, asB, asI, Bool.true_eq_false, Bool.false_eq_true, if_false, Bool.not_true, Bool.not_false, Option.bind_some, Option.map_some, Nat.reduceLeDiff, Nat.zero_le, e, e2]
theorem addL_ds (xs ys : List D) (h : xs.length + ys.length ≤ 1000) : opAddL (.lst xs) (.lst ys) = some (.lst (xs ++ ys)) := by
  show (if _ then _ else _) = _
  rw [if_pos (by rw [sizeLine_eq]; omega)]
theorem g3 (a b : Sl) (c : Sl) (s : Bxs) : G3 [a, b, c, .none, .none, .none, .none, .none, .none, .none, .none, .none] s = .ok (.next [a, b, c, .val (.lst pagesA), .none, .none, .none, .none, .none, .none, .none, .none]) s := by
  unfold G3
  rw [nines]
  simp only [mDef, mDefN, env0, List.map_cons, List.map_nil, List.replicate, List.cons_append, List.nil_append, Nat.reduceSub, msSeq, msIf, msRet, msNil, msSet, msRetN, mVar, mVarW, mC, m1, m2, m2S, m2N, mtE, mtNot, mtOr, mtAnd, mAnd, mOr, mNot, mIf, mN, mTup, mLst, mCB, mCN, maCons, maNil, mCall, mCallN, arity, mSl, moN, moS, mLc, miSeq, R.bind_ok, R.bind_exc, R.bind_bad, R.ofO_some, R.ofO_none, List.getElem?_cons_zero, List.getElem?_cons_succ, List.set_cons_zero, List.set_cons_succ, List.length_cons, List.length_nil, Nat.reduceAdd, Nat.zero_add, if_true, reduceIte, asB, asI, Bool.true_eq_false, Bool.false_eq_true, if_false, Bool.not_true, Bool.not_false, Option.bind_some, Option.map_some, Nat.reduceLeDiff, Nat.zero_le, pagesA]
theorem g4 (a b : Sl) (c : Sl) (s : Bxs) : G4 [a, b, c, .val (.lst pagesA), .none, .none, .none, .none, .none, .none, .none, .none] s = .ok (.next [a, b, c, .val (.lst (pagesA ++ pagesB)), .none, .none, .none, .none, .none, .none, .none, .none]) s := by
  have e := addL_ds pagesA pagesB (by decide)
  unfold G4
  simp only [pagesB] at e ⊢
  simp only [mDef, mDefN, env0, List.map_cons, List.map_nil, List.replicate, List.cons_append, List.nil_append, Nat.reduceSub, msSeq, msIf, msRet, msNil, msSet, msRetN, mVar, mVarW, mC, m1, m2, m2S, m2N, mtE, mtNot, mtOr, mtAnd, mAnd, mOr, mNot, mIf, mN, mTup, mLst, mCB, mCN, maCons, maNil, mCall, mCallN, arity, mSl, moN, moS, mLc, miSeq, R.bind_ok, R.bind_exc, R.bind_bad, R.ofO_some, R.ofO_none, List.getElem?_cons_zero, List.getElem?_cons_succ, List.set_cons_zero, List.set_cons_succ, List.length_cons, List.length_nil, Nat.reduceAdd, Nat.zero_add, if_true, reduceIte, asB, asI, Bool.true_eq_false, Bool.false_eq_true, if_false, Bool.not_true, Bool.not_false, Option.bind_some, Option.map_some, Nat.reduceLeDiff, Nat.zero_le, e]
theorem g5 (a b : Sl) (c : Sl) (s : Bxs) : G5 [a, b, c, .val (.lst (pagesA ++ pagesB)), .none, .none, .none, .none, .none, .none, .none, .none] s = .ok (.next [a, b, c, .val (.lst (pagesA ++ pagesB ++ pagesC)), .none, .none, .none, .none, .none, .none, .none, .none]) s := by
  have e := addL_ds (pagesA ++ pagesB) pagesC (by decide)
  unfold G5
  simp only [pagesC] at e ⊢
  simp only [mDef, mDefN, env0, List.map_cons, List.map_nil, List.replicate, List.cons_append, List.nil_append, Nat.reduceSub, msSeq, msIf, msRet, msNil, msSet, msRetN, mVar, mVarW, mC, m1, m2, m2S, m2N, mtE, mtNot, mtOr, mtAnd, mAnd, mOr, mNot, mIf, mN, mTup, mLst, mCB, mCN, maCons, maNil, mCall, mCallN, arity, mSl, moN, moS, mLc, miSeq, R.bind_ok, R.bind_exc, R.bind_bad, R.ofO_some, R.ofO_none, List.getElem?_cons_zero, List.getElem?_cons_succ, List.set_cons_zero, List.set_cons_succ, List.length_cons, List.length_nil, Nat.reduceAdd, Nat.zero_add, if_true, reduceIte, asB, asI, Bool.true_eq_false, Bool.false_eq_true, if_false, Bool.not_true, Bool.not_false, Option.bind_some, Option.map_some, Nat.reduceLeDiff, Nat.zero_le, e]
def pageB : MS := (msIf (mtE (m2 opNe (mCB fRepr (maCons (mOut "returned" "NoText" 0 selW (mCall 1 f_read_row (maCons (mVar 4) maNil))) maNil)) (mCB fRepr (maCons (mCall 2 f__law_expected_line (maCons (mVar 4) (maCons (mC (.int 0)) maNil))) maNil)))) (msRet (mC (.bl false))) msNil)
theorem pages_le : (pagesA ++ pagesB ++ pagesC ++ pagesD).all (strLe 100) = true := by decide +kernel
def pageI : MI := (miSeq (m2 opAddL (mVar 3) (mN (mLst (maCons (mC (.str "hear 00 a")) (maCons (mC (.str "Hear 0 a")) (maCons (mC (.str " hear 0 a")) (maCons (mC (.str "hear 0 abcde")) (maCons (mC (.str "hear 0  a")) (maCons (mC (.str "do ann abcdefghi 0")) maNil))))))))))
theorem em_g6 : G6 = msFor pageI (tgN 4) pageB := rfl
theorem g6 (a b : Sl) (c : Sl) (s : Bxs) : ∃ e4, G6 [a, b, c, .val (.lst (pagesA ++ pagesB ++ pagesC)), .none, .none, .none, .none, .none, .none, .none, .none] s = .ok (.next [a, b, c, .val (.lst (pagesA ++ pagesB ++ pagesC)), e4, .none, .none, .none, .none, .none, .none, .none]) s := by
  obtain ⟨env', s', h1, ⟨e4, h2, h3⟩⟩ := for_inv (t := tgN 4) (b := pageB) (fun _ env s' => ∃ e4, env = [a, b, c, .val (.lst (pagesA ++ pagesB ++ pagesC)), e4, .none, .none, .none, .none, .none, .none, .none] ∧ s' = s) (pagesA ++ pagesB ++ pagesC ++ pagesD) 0 [a, b, c, .val (.lst (pagesA ++ pagesB ++ pagesC)), .none, .none, .none, .none, .none, .none, .none, .none] s ⟨_, rfl, rfl⟩ (fun d hd j env s1 q1 q2 ⟨b4, eb, rb⟩ => by
    subst eb rb
    have q := List.all_eq_true.mp pages_le d hd
    match d, q with
    | .str y, q =>
      have q : y.length ≤ 100 := of_decide_eq_true q
      exact ⟨_, rfl, _, _, row_if (i := 4) (env := [a, b, c, .val (.lst (pagesA ++ pagesB ++ pagesC)), .val (.str y), .none, .none, .none, .none, .none, .none, .none]) (y := y) s1 rfl (by rw [sizeLine_eq]; omega), _, rfl, rfl⟩)
  subst h2 h3
  refine ⟨e4, Eq.trans ?_ h1⟩
  have e := addL_ds (pagesA ++ pagesB ++ pagesC) pagesD (by decide)
  rw [em_g6]
  unfold msFor
  have q : pageI [a, b, c, .val (.lst (pagesA ++ pagesB ++ pagesC)), .none, .none, .none, .none, .none, .none, .none, .none] s' = .ok (pagesA ++ pagesB ++ pagesC ++ pagesD) s' := by
    unfold pageI
    simp only [pagesD] at e ⊢
    simp only [mDef, mDefN, env0, List.map_cons, List.map_nil, List.replicate, List.cons_append, List.nil_append, Nat.reduceSub, msSeq, msIf, msRet, msNil, msSet, msRetN, mVar, mVarW, mC, m1, m2, m2S, m2N, mtE, mtNot, mtOr, mtAnd, mAnd, mOr, mNot, mIf, mN, mTup, mLst, mCB, mCN, maCons, maNil, mCall, mCallN, arity, mSl, moN, moS, mLc, miSeq, R.bind_ok, R.bind_exc, R.bind_bad, R.ofO_some, R.ofO_none, List.getElem?_cons_zero, List.getElem?_cons_succ, List.set_cons_zero, List.set_cons_succ, List.length_cons, List.length_nil, Nat.reduceAdd, Nat.zero_add, if_true, reduceIte, asB, asI, Bool.true_eq_false, Bool.false_eq_true, if_false, Bool.not_true, Bool.not_false, Option.bind_some, Option.map_some, Nat.reduceLeDiff, Nat.zero_le, e, seqD]
  rw [q, R.bind_ok]
end K85

set_option maxRecDepth 100000
set_option maxHeartbeats 4000000
namespace K85
open PySem PySem.Spec PyProof.Rows L2 UH PySem.NumText

theorem strs_flat (ts : List Str) : ∀ d ∈ ts.map D.str, flatD d := fun d hd => by
  obtain ⟨i, _, rfl⟩ := List.mem_map.mp hd
  trivial
theorem strs_eqv : ∀ ts : List Str, PyData.eqvAll (D.toPs (ts.map .str)) (D.toPs (ts.map .str)) = true
  | [] => rfl
  | t :: r => by
    show ((t == t) && PyData.eqvAll (D.toPs (r.map .str)) (D.toPs (r.map .str))) = true
    rw [strs_eqv r]
    simp
theorem ne_strs (ts : List Str) : opNe (.lst (ts.map .str)) (.lst (ts.map .str)) = some (.bl false) := by
  have o := flat_ok (strs_flat ts)
  have e : (D.lst (ts.map .str)).eqv (.lst (ts.map .str)) = true := strs_eqv ts
  unfold opNe
  rw [o, e]
  rfl
theorem readG_rows : ∀ (rows : List (List D)) (i : Nat), (∀ ds ∈ rows, Gd ds) → readG i (rows.map rowT) = .inr (rows.map .tup)
  | [], _, _ => rfl
  | ds :: r, i, h => by
    rw [List.map_cons]
    unfold readG
    rw [(h ds List.mem_cons_self).rd, readG_rows r (i + 1) fun x hx => h x (List.mem_cons_of_mem _ hx)]
    rfl
section
variable (a pg e4 : Sl) (rows : List (List D)) (hr : ∀ ds ∈ rows, Gd ds) (hl : rows.length = 21) (s : Bxs)
include hr in
theorem g7 : G7 [a, .val (.obj 0), .val (.lst (rows.map .tup)), pg, e4, .none, .none, .none, .none, .none, .none, .none] s = .ok (.next [a, .val (.obj 0), .val (.lst (rows.map .tup)), pg, e4, .none, .none, .val (.tup (rows.map .tup)), .val (.lst ((rows.map rowT).map .str)), .none, .none, .none]) s := by
  unfold G7
  simp only [mDef, mDefN, env0, List.map_cons, List.map_nil, List.replicate, List.cons_append, List.nil_append, Nat.reduceSub, msSeq, msIf, msRet, msNil, msSet, msRetN, mVar, mVarW, mC, m1, m2, m2S, m2N, mtE, mtNot, mtOr, mtAnd, mAnd, mOr, mNot, mIf, mN, mTup, mLst, mCB, mCN, maCons, maNil, mCall, mCallN, arity, mSl, moN, moS, mLc, miSeq, R.bind_ok, R.bind_exc, R.bind_bad, R.ofO_some, R.ofO_none, List.getElem?_cons_zero, List.getElem?_cons_succ, List.set_cons_zero, List.set_cons_succ, List.length_cons, List.length_nil, Nat.reduceAdd, Nat.zero_add, if_true, reduceIte, asB, asI, Bool.true_eq_false, Bool.false_eq_true, if_false, Bool.not_true, Bool.not_false, Option.bind_some, Option.map_some, Nat.reduceLeDiff, Nat.zero_le, msPar, fTup, lines_of s rows hr]
include hr in
theorem g8 : G8 [a, .val (.obj 0), .val (.lst (rows.map .tup)), pg, e4, .none, .none, .val (.tup (rows.map .tup)), .val (.lst ((rows.map rowT).map .str)), .none, .none, .none] s = .ok (.next [a, .val (.obj 0), .val (.lst (rows.map .tup)), pg, e4, .own ((rows.map rowT).map .str), .none, .val (.tup (rows.map .tup)), .val (.lst ((rows.map rowT).map .str)), .none, .none, .none]) s := by
  unfold G8
  simp only [mDef, mDefN, env0, List.map_cons, List.map_nil, List.replicate, List.cons_append, List.nil_append, Nat.reduceSub, msSeq, msIf, msRet, msNil, msSet, msRetN, mVar, mVarW, mC, m1, m2, m2S, m2N, mtE, mtNot, mtOr, mtAnd, mAnd, mOr, mNot, mIf, mN, mTup, mLst, mCB, mCN, maCons, maNil, mCall, mCallN, arity, mSl, moN, moS, mLc, miSeq, R.bind_ok, R.bind_exc, R.bind_bad, R.ofO_some, R.ofO_none, List.getElem?_cons_zero, List.getElem?_cons_succ, List.set_cons_zero, List.set_cons_succ, List.length_cons, List.length_nil, Nat.reduceAdd, Nat.zero_add, if_true, reduceIte, asB, asI, Bool.true_eq_false, Bool.false_eq_true, if_false, Bool.not_true, Bool.not_false, Option.bind_some, Option.map_some, Nat.reduceLeDiff, Nat.zero_le, msNew, log_lines s rows hr]
theorem lens (h : ∀ ds ∈ rows, Gd ds) : ∀ t ∈ rows.map rowT, t.length ≤ 200 := fun t ht => by
  obtain ⟨ds, hd, rfl⟩ := List.mem_map.mp ht
  exact (h ds hd).len
include hr hl in
theorem g9 : G9 [a, .val (.obj 0), .val (.lst (rows.map .tup)), pg, e4, .own ((rows.map rowT).map .str), .none, .val (.tup (rows.map .tup)), .val (.lst ((rows.map rowT).map .str)), .none, .none, .none] s = .ok (.next [a, .val (.obj 0), .val (.lst (rows.map .tup)), pg, e4, .own ((rows.map rowT).map .str), .none, .val (.tup (rows.map .tup)), .val (.lst ((rows.map rowT).map .str)), .none, .none, .none]) s := by
  have rl := read_log (rows.map rowT) s fun t ht => by have := lens rows hr t ht; rw [sizeLine_eq]; omega
  rw [readG_rows rows 0 hr] at rl
  have rl : f_read_log [.lst ((rows.map rowT).map .str)] s = .ok (.tup (rows.map .tup)) s := rl
  have sm : Sm 2 777 (.tup (rows.map .tup)) := Sm.tup (m := 21) (k := 1) (B := 36) (fun d hd => by
    obtain ⟨ds, h1, rfl⟩ := List.mem_map.mp hd
    exact (hr ds h1).sm) (by rw [List.length_map, hl]; exact Nat.le_refl _)
  have rp := sm.repr (by decide) (by decide)
  unfold G9
  simp only [mDef, mDefN, env0, List.map_cons, List.map_nil, List.replicate, List.cons_append, List.nil_append, Nat.reduceSub, msSeq, msIf, msRet, msNil, msSet, msRetN, mVar, mVarW, mC, m1, m2, m2S, m2N, mtE, mtNot, mtOr, mtAnd, mAnd, mOr, mNot, mIf, mN, mTup, mLst, mCB, mCN, maCons, maNil, mCall, mCallN, arity, mSl, moN, moS, mLc, miSeq, R.bind_ok, R.bind_exc, R.bind_bad, R.ofO_some, R.ofO_none, List.getElem?_cons_zero, List.getElem?_cons_succ, List.set_cons_zero, List.set_cons_succ, List.length_cons, List.length_nil, Nat.reduceAdd, Nat.zero_add, if_true, reduceIte, asB, asI, Bool.true_eq_false, Bool.false_eq_true, if_false, Bool.not_true, Bool.not_false, Option.bind_some, Option.map_some, Nat.reduceLeDiff, Nat.zero_le, ne_strs, mCallKN, and_self, log_lines s rows hr, rl, rp, ne_self]
include hl in
theorem g10 : G10 [a, .val (.obj 0), .val (.lst (rows.map .tup)), pg, e4, .own ((rows.map rowT).map .str), .none, .val (.tup (rows.map .tup)), .val (.lst ((rows.map rowT).map .str)), .none, .none, .none] s = .ok (.next [a, .val (.obj 0), .val (.lst (rows.map .tup)), pg, e4, .own ((rows.map rowT).map .str ++ [.str "hear 0 a"]), .none, .val (.tup (rows.map .tup)), .val (.lst ((rows.map rowT).map .str)), .none, .none, .none]) s := by
  have l : ((rows.map rowT).map D.str).length < sizeLine := by rw [List.length_map, List.length_map, hl, sizeLine_eq]; decide
  unfold G10
  simp only [mDef, mDefN, env0, List.map_cons, List.map_nil, List.replicate, List.cons_append, List.nil_append, Nat.reduceSub, msSeq, msIf, msRet, msNil, msSet, msRetN, mVar, mVarW, mC, m1, m2, m2S, m2N, mtE, mtNot, mtOr, mtAnd, mAnd, mOr, mNot, mIf, mN, mTup, mLst, mCB, mCN, maCons, maNil, mCall, mCallN, arity, mSl, moN, moS, mLc, miSeq, R.bind_ok, R.bind_exc, R.bind_bad, R.ofO_some, R.ofO_none, List.getElem?_cons_zero, List.getElem?_cons_succ, List.set_cons_zero, List.set_cons_succ, List.length_cons, List.length_nil, Nat.reduceAdd, Nat.zero_add, if_true, reduceIte, asB, asI, Bool.true_eq_false, Bool.false_eq_true, if_false, Bool.not_true, Bool.not_false, Option.bind_some, Option.map_some, Nat.reduceLeDiff, Nat.zero_le, msApp, l]
theorem g11 (xs : List D) (h : 0 < xs.length) (b c d e : Sl) : ∃ ys : List D, G11 [a, b, c, pg, e4, .own xs, .none, d, e, .none, .none, .none] s = .ok (.next [a, b, c, pg, e4, .own ys, .none, d, e, .none, .none, .none]) s := by
  have q : ixN xs.length 0 = some 0 := by
    unfold ixN
    rw [if_pos (by decide), if_pos (by omega)]
    rfl
  refine ⟨xs.set 0 (.str ""), ?_⟩
  unfold G11 msSetIx
  simp only [mDef, mDefN, env0, List.map_cons, List.map_nil, List.replicate, List.cons_append, List.nil_append, Nat.reduceSub, msSeq, msIf, msRet, msNil, msSet, msRetN, mVar, mVarW, mC, m1, m2, m2S, m2N, mtE, mtNot, mtOr, mtAnd, mAnd, mOr, mNot, mIf, mN, mTup, mLst, mCB, mCN, maCons, maNil, mCall, mCallN, arity, mSl, moN, moS, mLc, miSeq, R.bind_ok, R.bind_exc, R.bind_bad, R.ofO_some, R.ofO_none, List.getElem?_cons_zero, List.getElem?_cons_succ, List.set_cons_zero, List.set_cons_succ, List.length_cons, List.length_nil, Nat.reduceAdd, Nat.zero_add, if_true, reduceIte, asB, asI, Bool.true_eq_false, Bool.false_eq_true, if_false, Bool.not_true, Bool.not_false, Option.bind_some, Option.map_some, Nat.reduceLeDiff, Nat.zero_le, q]
include hr in
theorem g12 (o : Sl) : G12 [a, .val (.obj 0), .val (.lst (rows.map .tup)), pg, e4, o, .none, .val (.tup (rows.map .tup)), .val (.lst ((rows.map rowT).map .str)), .none, .none, .none] s = .ok (.next [a, .val (.obj 0), .val (.lst (rows.map .tup)), pg, e4, o, .none, .val (.tup (rows.map .tup)), .val (.lst ((rows.map rowT).map .str)), .none, .none, .none]) s := by
  unfold G12
  simp only [mDef, mDefN, env0, List.map_cons, List.map_nil, List.replicate, List.cons_append, List.nil_append, Nat.reduceSub, msSeq, msIf, msRet, msNil, msSet, msRetN, mVar, mVarW, mC, m1, m2, m2S, m2N, mtE, mtNot, mtOr, mtAnd, mAnd, mOr, mNot, mIf, mN, mTup, mLst, mCB, mCN, maCons, maNil, mCall, mCallN, arity, mSl, moN, moS, mLc, miSeq, R.bind_ok, R.bind_exc, R.bind_bad, R.ofO_some, R.ofO_none, List.getElem?_cons_zero, List.getElem?_cons_succ, List.set_cons_zero, List.set_cons_succ, List.length_cons, List.length_nil, Nat.reduceAdd, Nat.zero_add, if_true, reduceIte, asB, asI, Bool.true_eq_false, Bool.false_eq_true, if_false, Bool.not_true, Bool.not_false, Option.bind_some, Option.map_some, Nat.reduceLeDiff, Nat.zero_le, ne_strs, log_lines s rows hr]
end
def logIf : MS := (msIf (mtOr (mtE (m2 opNe (mCB fRepr (maCons (mOut "returned" "NoText" 0 selW (mCall 1 f_read_log (maCons (mVar 9) maNil))) maNil)) (mCB fRepr (maCons (mCall 1 f__law_expected_log (maCons (mVar 9) maNil)) maNil)))) (mtE (m2 opNe (mVar 9) (mVar 10)))) (msRet (mC (.bl false))) msNil)
theorem log_if (ts : List Str) (env : En) (s : Bxs) (h9 : env[9]? = some (.val (.lst (ts.map .str)))) (h10 : env[10]? = some (.val (.lst (ts.map .str)))) (hl : ts.length ≤ 1000) (hB : ∀ t ∈ ts, t.length ≤ 10000) : logIf env s = .ok (.next env) s := by
  have hs : ∀ t ∈ ts, t.length + 2 ≤ sizeLine := fun t ht => by have := hB t ht; rw [sizeLine_eq]; omega
  have e1 := out_log s h9 hs
  have e2 := expected_log ts s (by omega) hs
  have e3 := (outG_sm ts hl).repr (by decide) (by decide)
  unfold logIf
  simp only [mDef, mDefN, env0, List.map_cons, List.map_nil, List.replicate, List.cons_append, List.nil_append, Nat.reduceSub, msSeq, msIf, msRet, msNil, msSet, msRetN, mVar, mVarW, mC, m1, m2, m2S, m2N, mtE, mtNot, mtOr, mtAnd, mAnd, mOr, mNot, mIf, mN, mTup, mLst, mCB, mCN, maCons, maNil, mCall, mCallN, arity, mSl, moN, moS, mLc, miSeq, R.bind_ok, R.bind_exc, R.bind_bad, R.ofO_some, R.ofO_none, List.getElem?_cons_zero, List.getElem?_cons_succ, List.set_cons_zero, List.set_cons_succ, List.length_cons, List.length_nil, Nat.reduceAdd, Nat.zero_add, if_true, reduceIte, asB, asI, Bool.true_eq_false, Bool.false_eq_true, if_false, Bool.not_true, Bool.not_false, Option.bind_some, Option.map_some, Nat.reduceLeDiff, Nat.zero_le, e1, h9, h10, e2, e3, ne_self, ne_strs]
def logB : MS := (msSeq (msSet 9 (mCall 2 f__law_modified_lines (maCons (mVar 1) (maCons (mVar 8) maNil))))
  (msSeq (msSet 9 (mIf (mtOr (mtE (m2 opEq (m2 opMod (mVar 6) (mC (.int 2))) (mC (.int 0)))) (mtE (m2 opEq (mVar 9) (mN (mLst maNil))))) (mVar 9) (mCall 2 f__law_modified_lines (maCons (mVar 1) (maCons (mVar 9) maNil)))))
  (msSeq (msSet 10 (mN (mCN fList (maCons (mVar 9) maNil)))) logIf)))
theorem em_g13 : G13 = msFor (miRange (maCons (mC (.int 14)) maNil)) (tgN 6) logB := rfl
theorem log_b {n : Nat} {s : Bxs} (h : Rg n s) (hn : n + 20 < 1000000) (ts : List Str) (hl : ts.length = 21) (hB : ∀ t ∈ ts, t.length ≤ 200) (a c pg e4 o lg e9 e10 e11 : Sl) (k : Int) : ∃ (x9 x10 : Sl) (s' : Bxs), logB [a, .val (.obj 0), c, pg, e4, o, .val (.int k), lg, .val (.lst (ts.map .str)), e9, e10, e11] s =
    .ok (.next [a, .val (.obj 0), c, pg, e4, o, .val (.int k), lg, .val (.lst (ts.map .str)), x9, x10, e11]) s' ∧ Rg (n + 14) s' := by
  obtain ⟨us, s1, d1, u1, u2, u3, r1⟩ := modlines h (by omega) ts (by omega) (by omega) 200 (by decide) hB
  have ql : opMod (.int k) (.int 2) = some (.int (k % 2)) := mod_int (by decide)
  have qe : opEq (.int (k % 2)) (.int 0) = some (.bl (decide (k % 2 = 0))) := opEq_int _ _
  have ne := eq_nil _ (flat_ok (strs_flat us))
  have nn : (us.map D.str).isEmpty = false := by cases us with
    | nil => rw [List.length_nil] at u2; omega
    | cons _ _ => rfl
  rw [nn] at ne
  by_cases k0 : k % 2 = 0
  · have f := log_if us [a, .val (.obj 0), c, pg, e4, o, .val (.int k), lg, .val (.lst (ts.map .str)), .val (.lst (us.map .str)), .val (.lst (us.map .str)), e11] s1 rfl rfl (by omega) fun t ht => by have := u3 t ht; omega
    refine ⟨.val (.lst (us.map .str)), .val (.lst (us.map .str)), s1, ?_, wkR r1 (by omega)⟩
    unfold logB
    simp only [mDef, mDefN, env0, List.map_cons, List.map_nil, List.replicate, List.cons_append, List.nil_append, Nat.reduceSub, msSeq, msIf, msRet, msNil, msSet, msRetN, mVar, mVarW, mC, m1, m2, m2S, m2N, mtE, mtNot, mtOr, mtAnd, mAnd, mOr, mNot, mIf, mN, mTup, mLst, mCB, mCN, maCons, maNil, mCall, mCallN, arity, mSl, moN, moS, mLc, miSeq, R.bind_ok, R.bind_exc, R.bind_bad, R.ofO_some, R.ofO_none, List.getElem?_cons_zero, List.getElem?_cons_succ, List.set_cons_zero, List.set_cons_succ, List.length_cons, List.length_nil, Nat.reduceAdd, Nat.zero_add, if_true, reduceIte, asB, asI, Bool.true_eq_false, Bool.false_eq_true, if_false, Bool.not_true, Bool.not_false, Option.bind_some, Option.map_some, Nat.reduceLeDiff, Nat.zero_le, d1, ql, qe, decide_eq_true k0, fList]
    exact f
  · obtain ⟨vs, s2, d2, v1, v2, v3, r2⟩ := modlines r1 (by omega) us (by omega) (by omega) 420 (by decide) fun t ht => by have := u3 t ht; omega
    have f := log_if vs [a, .val (.obj 0), c, pg, e4, o, .val (.int k), lg, .val (.lst (ts.map .str)), .val (.lst (vs.map .str)), .val (.lst (vs.map .str)), e11] s2 rfl rfl (by omega) fun t ht => by have := v3 t ht; omega
    refine ⟨.val (.lst (vs.map .str)), .val (.lst (vs.map .str)), s2, ?_, wkR r2 (by omega)⟩
    unfold logB
    simp only [mDef, mDefN, env0, List.map_cons, List.map_nil, List.replicate, List.cons_append, List.nil_append, Nat.reduceSub, msSeq, msIf, msRet, msNil, msSet, msRetN, mVar, mVarW, mC, m1, m2, m2S, m2N, mtE, mtNot, mtOr, mtAnd, mAnd, mOr, mNot, mIf, mN, mTup, mLst, mCB, mCN, maCons, maNil, mCall, mCallN, arity, mSl, moN, moS, mLc, miSeq, R.bind_ok, R.bind_exc, R.bind_bad, R.ofO_some, R.ofO_none, List.getElem?_cons_zero, List.getElem?_cons_succ, List.set_cons_zero, List.set_cons_succ, List.length_cons, List.length_nil, Nat.reduceAdd, Nat.zero_add, if_true, reduceIte, asB, asI, Bool.true_eq_false, Bool.false_eq_true, if_false, Bool.not_true, Bool.not_false, Option.bind_some, Option.map_some, Nat.reduceLeDiff, Nat.zero_le, d1, ql, qe, decide_eq_false k0, ne, d2, fList]
    exact f
theorem g13 {n : Nat} {s : Bxs} (h : Rg n s) (hn : n + 400 < 1000000) (ts : List Str) (hl : ts.length = 21) (hB : ∀ t ∈ ts, t.length ≤ 200) (a c pg e4 o lg : Sl) : ∃ (e6 e9 e10 : Sl) (s' : Bxs), G13 [a, .val (.obj 0), c, pg, e4, o, .none, lg, .val (.lst (ts.map .str)), .none, .none, .none] s =
    .ok (.next [a, .val (.obj 0), c, pg, e4, o, e6, lg, .val (.lst (ts.map .str)), e9, e10, .none]) s' := by
  obtain ⟨env', s', h1, ⟨x6, x9, x10, e1, r1⟩⟩ := for_inv (t := tgN 6) (b := logB) (fun j env s => ∃ x6 x9 x10, env = [a, .val (.obj 0), c, pg, e4, o, x6, lg, .val (.lst (ts.map .str)), x9, x10, .none] ∧ Rg (n + 14 * j) s) ((List.range 14).map fun (i : Nat) => D.int (i : Int)) 0 [a, .val (.obj 0), c, pg, e4, o, .none, lg, .val (.lst (ts.map .str)), .none, .none, .none] s ⟨_, _, _, rfl, h⟩ (fun d hd j env s q1 q2 ⟨b6, b9, b10, eb, rb⟩ => by
    subst eb
    have q2 : j < 0 + 14 := q2
    obtain ⟨i, _, rfl⟩ := List.mem_map.mp hd
    obtain ⟨c9, c10, s', f1, f2⟩ := log_b rb (by omega) ts hl hB a c pg e4 o lg b9 b10 .none (i : Int)
    exact ⟨_, rfl, _, s', f1, _, _, _, rfl, by rw [show n + 14 * (j + 1) = n + 14 * j + 14 by omega]; exact f2⟩)
  subst e1
  refine ⟨x6, x9, x10, s', ?_⟩
  rw [em_g13]
  exact h1
theorem g14 (env : En) (s : Bxs) : G14 env s = .ok (.ret (.bl true)) s := by
  have e := read_log [] s fun t ht => by cases ht
  have e : f_read_log [.lst []] s = .ok (.tup []) s := e
  have l := log_lines s [] fun t ht => by cases ht
  have l : f_log_lines [.tup []] s = .ok [] s := l
  have o : mOut "returned" "NoText" 0 selW (mCallK 1 (fun _ es => es) 0 1 f_read_log maNil (maCons (mN (mLst maNil)) maNil)) env s = .ok (.tup [.str "returned", .tup []]) s := by
    have q : mCallK 1 (fun _ es => es) 0 1 f_read_log maNil (maCons (mN (mLst maNil)) maNil) env s = .ok (.tup []) s := by simp only [mDef, mDefN, env0, List.map_cons, List.map_nil, List.replicate, List.cons_append, List.nil_append, Nat.reduceSub, msSeq, msIf, msRet, msNil, msSet, msRetN, mVar, mVarW, mC, m1, m2, m2S, m2N, mtE, mtNot, mtOr, mtAnd, mAnd, mOr, mNot, mIf, mN, mTup, mLst, mCB, mCN, maCons, maNil, mCall, mCallN, arity, mSl, moN, moS, mLc, miSeq, R.bind_ok, R.bind_exc, R.bind_bad, R.ofO_some, R.ofO_none, List.getElem?_cons_zero, List.getElem?_cons_succ, List.set_cons_zero, List.set_cons_succ, List.length_cons, List.length_nil, Nat.reduceAdd, Nat.zero_add, if_true, reduceIte, asB, asI, Bool.true_eq_false, Bool.false_eq_true, if_false, Bool.not_true, Bool.not_false, Option.bind_some, Option.map_some, Nat.reduceLeDiff, Nat.zero_le, mCallK, and_self, e]
    unfold mOut
    rw [q]
  have q1 : opEq (.tup [.str "returned", .tup []]) (.tup [.str "returned", .tup []]) = some (.bl true) := rfl
  have q2 : opEq (.lst []) (.lst []) = some (.bl true) := rfl
  unfold G14
  simp only [mDef, mDefN, env0, List.map_cons, List.map_nil, List.replicate, List.cons_append, List.nil_append, Nat.reduceSub, msSeq, msIf, msRet, msNil, msSet, msRetN, mVar, mVarW, mC, m1, m2, m2S, m2N, mtE, mtNot, mtOr, mtAnd, mAnd, mOr, mNot, mIf, mN, mTup, mLst, mCB, mCN, maCons, maNil, mCall, mCallN, arity, mSl, moN, moS, mLc, miSeq, R.bind_ok, R.bind_exc, R.bind_bad, R.ofO_some, R.ofO_none, List.getElem?_cons_zero, List.getElem?_cons_succ, List.set_cons_zero, List.set_cons_succ, List.length_cons, List.length_nil, Nat.reduceAdd, Nat.zero_add, if_true, reduceIte, asB, asI, Bool.true_eq_false, Bool.false_eq_true, if_false, Bool.not_true, Bool.not_false, Option.bind_some, Option.map_some, Nat.reduceLeDiff, Nat.zero_le, o, q1, l, q2]
theorem law_ok (sc : List Int) : ∃ s, f_law [.lst (sc.map .int)] [] = .ok (.bl true) s := by
  have r0 : Rg 0 (rg (sc.take 63) 0 0 0) := ⟨_, 0, 0, 0, rfl, by decide, Nat.le_refl _⟩
  obtain ⟨rows, s1, h1, hl, hr, r1⟩ := g1 sc r0 (by decide)
  obtain ⟨s2, h2, r2⟩ := g2 (.lst (sc.map .int)) r1 rows (by rw [hl]; decide) hr
  obtain ⟨e4, h6⟩ := g6 (.val (.lst (sc.map .int))) (.val (.obj 0)) (.val (.lst (rows.map .tup))) s2
  obtain ⟨ys, h11⟩ := g11 (.val (.lst (sc.map .int))) (.val (.lst (pagesA ++ pagesB ++ pagesC))) e4 s2 ((rows.map rowT).map .str ++ [.str "hear 0 a"]) (by rw [List.length_append, List.length_singleton]; omega) (.val (.obj 0)) (.val (.lst (rows.map .tup))) (.val (.tup (rows.map .tup))) (.val (.lst ((rows.map rowT).map .str)))
  obtain ⟨e6, e9, e10, s3, h13⟩ := g13 r2 (by rw [hl]; decide) (rows.map rowT) (by rw [List.length_map]; exact hl) (lens rows hr) (.val (.lst (sc.map .int))) (.val (.lst (rows.map .tup))) (.val (.lst (pagesA ++ pagesB ++ pagesC))) e4 (.own ys) (.val (.tup (rows.map .tup)))
  refine ⟨s3, ?_⟩
  unfold f_law
  rw [em_law]
  simp only [mDef, env0, List.map_cons, List.map_nil, List.replicate, List.cons_append, List.nil_append, Nat.reduceSub, msSeq, R.bind_ok, g0, h1, h2, g3, g4, g5, h6, g7 _ _ _ rows hr, g8 _ _ _ rows hr, g9 _ _ _ rows hr hl, g10 _ _ _ rows hl, h11, g12 _ _ _ rows hr, h13, g14]
end K85

set_option maxRecDepth 100000
set_option maxHeartbeats 4000000
namespace K85
open PySem PySem.Spec PyProof.Rows L2 UH

/-! ### the error's own __init__ -/
def sI : Stmt := (C8.clsBody (top 3)).getD 0 (.Pass ⟨0, 0, 0, 0⟩)
abbrev NI : List Str := ["self", "line", "word"]
theorem scI : FnScope NI NI (C8.fnScope sI) := ⟨rfl, rfl, rfl, by decide +kernel, rfl, by decide +kernel, by decide +kernel⟩
section
variable {w : World} {K : PySem.W.Frag} {mg : Str → Option Value} {base : Heap} {C CT fI : Addr} {mc : Value}
def t_init (K : PySem.W.Frag) : TS := tSeq (tDrop (tVeI K (tCons (tVar 0) (tCons (tC (.str "invalid text")) tNil)))) (sInit K [("line", 1), ("word", 2)])
theorem init_ok {oc dV kV doc pm cdv ct : Value} {od an : Option Addr} {osl : Array (Option Value)} (gT : mg "TextError" = some (.ref CT))
    (hga : PySem.W.specialIn K (.ref CT) "__getattribute__" = some (some (.builtin "type.__getattribute__"))) (ht : PySem.W.typeIn K (.ref CT) = some mc) (hr : PySem.W.readsIn K CT mc = true) (hf : PySem.W.findCls K (.ref CT) mc "__init__" = some (.val (.builtin "ValueError.__init__")))
    (T : OexC K C) (noL : PySem.W.findIn K (.ref C) "line" = some none) (noW : PySem.W.findIn K (.ref C) "word" = some none)
    (lk : K.lookup fI = some ⟨oc, od, .func (PySem.W.fnOf "__init__" "NoText.__init__" (C8.fnArgs sI) (C8.fnBody sI) (C8.fnScope sI) dV kV doc pm an cdv ct), osl⟩) (hcd : PySem.W.codeIn K cdv "NoText.__init__" = true) :
    FnOk Pg w K mg base (L2.CX Pg w) 2 fI (PySem.W.fnOf "__init__" "NoText.__init__" (C8.fnArgs sI) (C8.fnBody sI) (C8.fnScope sI) dV kV doc pm an cdv ct) NI (spInit K C 2 initG) := by
  refine fn_of lk hcd scI (fun vs H Q E h => ?_) (fun A outer s H vs Q E hr' h => ⟨t_init K, ?_, ?_⟩)
  · obtain ⟨a, ws, rfl, hl, _⟩ := h
    show ws.length + 1 = 3
    omega
  · exact pss_cons (ps_expr (pe_oinit rfl gT hga ht hr hf (pa_cons (pv 0) (pa_cons pe_str pa_nil)))) (si_cons (pv 0) (pv 1) (si_cons (pv 0) (pv 2) si_nil))
  · obtain ⟨a, ws, rfl, hl, ha, q⟩ := h
    match ws, hl with
    | [x, y], _ =>
      refine ⟨.ref a, rfl, a, C, [.str "invalid text"], rfl, by decide, T, ha, ?_⟩
      refine ⟨a, C, H, [], rfl, T, ⟨rfl, ha⟩, by decide, fun p hp => ?_, fun H' i => q H' i⟩
      simp only [List.mem_cons, List.not_mem_nil, or_false] at hp
      rcases hp with rfl | rfl
      · exact ⟨noL, x, rfl⟩
      · exact ⟨noW, y, rfl⟩
end
end K85

set_option maxRecDepth 100000
set_option maxHeartbeats 4000000
namespace K85
open PySem PySem.Spec PyProof.Rows L2 UH

/-! ### from where a def stands to what a caller needs -/
structure Df (K : PySem.W.Frag) (x : Str) (st : Stmt) (f : Addr) (cdv : Value) : Prop where
  ex : ∃ (oc : Value) (od : Option Addr) (kV doc pm : Value) (an : Option Addr) (ct : Value) (osl : Array (Option Value)),
    K.lookup f = some ⟨oc, od, .func (PySem.W.fnOf x x (C8.fnArgs st) (C8.fnBody st) (C8.fnScope st) .none kV doc pm an cdv ct), osl⟩
  cd : PySem.W.codeIn K cdv x = true
  kp : PySem.W.keepIn K (.ref f) = true
section
variable {w : World} {K : PySem.W.Frag} {mg : Str → Option Value} {base : Heap} {P : Pr} {x : Str} {st : Stmt} {f : Addr} {cdv : Value} {N ps : List Str} {k n : Nat} {m : MS}
abbrev BindOk (x : Str) (st : Stmt) (ps : List Str) : Prop := ∀ (kV doc pm : Value) (an : Option Addr) (cdv ct : Value) (us : List Value), us.length = ps.length → bindArgs (PySem.W.fnOf x x (C8.fnArgs st) (C8.fnBody st) (C8.fnScope st) .none kV doc pm an cdv ct) ⟨us, []⟩ = pure (ps.zip us)
abbrev BindKw (x : Str) (st : Stmt) (y : Str) : Prop := ∀ (kV doc pm : Value) (an : Option Addr) (cdv ct u : Value), bindArgs (PySem.W.fnOf x x (C8.fnArgs st) (C8.fnBody st) (C8.fnScope st) .none kV doc pm an cdv ct) ⟨[], [(y, u)]⟩ = pure [(y, u)]
theorem fd_of (D : Df K x st f cdv) (g : mg x = some (.ref f)) (S : FnScope N ps (C8.fnScope st)) (hn : ps.length = n) (hN : n ≤ N.length) (hb : BindOk x st ps)
    (b : Bd Pg w K mg base N x (C8.fnScope st) f cdv k (C8.fnBody st) P m) : FdC Pg w K mg base (k + 1) x (spM P n (mDef N.length n m)) := by
  obtain ⟨oc, od, kV, doc, pm, an, ct, osl, lk⟩ := D.ex
  exact ⟨f, _, ps, def_ok lk D.cd S hn hN b, g, D.kp, .all (hb kV doc pm an cdv ct)⟩
theorem fd_ofN (D : Df K x st f cdv) (g : mg x = some (.ref f)) (S : FnScope N ps (C8.fnScope st)) (hn : ps.length = n) (hN : n ≤ N.length) (hb : BindOk x st ps)
    (b : Bd Pg w K mg base N x (C8.fnScope st) f cdv k (C8.fnBody st) P m) : FdC Pg w K mg base (k + 1) x (spN P n (mDefN N.length n m)) := by
  obtain ⟨oc, od, kV, doc, pm, an, ct, osl, lk⟩ := D.ex
  exact ⟨f, _, ps, def_okN lk D.cd S hn hN b, g, D.kp, .all (hb kV doc pm an cdv ct)⟩
theorem kw1 {fd : FuncData} {y : Str} (h : ∀ u, bindArgs fd ⟨[], [(y, u)]⟩ = pure [(y, u)]) : KwB K fd [y] 0 [y] (fun _ es => es) (fun _ es => es) := ⟨fun s us ws _ h1 h2 => by
    match us, h1, ws, h2 with
    | [], _, [u], _ => exact .of_eq (h u), fun _ r => r⟩
theorem fk_of {y : Str} (D : Df K x st f cdv) (g : mg x = some (.ref f)) (S : FnScope N [y] (C8.fnScope st)) (hN : 1 ≤ N.length) (hb : BindKw x st y)
    (b : Bd Pg w K mg base N x (C8.fnScope st) f cdv k (C8.fnBody st) P m) : FkC Pg w K mg base (k + 1) x (spM P 1 (mDef N.length 1 m)) 0 [y] (fun _ es => es) := by
  obtain ⟨oc, od, kV, doc, pm, an, ct, osl, lk⟩ := D.ex
  exact ⟨f, _, [y], _, def_ok lk D.cd S rfl hN b, g, D.kp, kw1 (hb kV doc pm an cdv ct)⟩
theorem fk_ofN {y : Str} (D : Df K x st f cdv) (g : mg x = some (.ref f)) (S : FnScope N [y] (C8.fnScope st)) (hN : 1 ≤ N.length) (hb : BindKw x st y)
    (b : Bd Pg w K mg base N x (C8.fnScope st) f cdv k (C8.fnBody st) P m) : FkC Pg w K mg base (k + 1) x (spN P 1 (mDefN N.length 1 m)) 0 [y] (fun _ es => es) := by
  obtain ⟨oc, od, kV, doc, pm, an, ct, osl, lk⟩ := D.ex
  exact ⟨f, _, [y], _, def_okN lk D.cd S rfl hN b, g, D.kp, kw1 (hb kV doc pm an cdv ct)⟩
/-! ### the table of readers -/
theorem readers_ok {d u1 u2 u3 : Addr} {h1 h2 h3 : Int} {k1 k2 k3 : Tok} {n : Nat} {a1 a2 a3 : Str}
    (hP : P.K = K) (lR : K.lookup d = some ⟨.type "dict", none, .dict #[⟨h1, .str "hear" k1, .ref u1⟩, ⟨h2, .str "do" k2, .ref u2⟩, ⟨h3, .str "tell" k3, .ref u3⟩] n, #[]⟩)
    (e1 : h1 = PyData.keyHash w.params "hear") (e2 : h2 = PyData.keyHash w.params "do") (e3 : h3 = PyData.keyHash w.params "tell") (low : (d == sysModules) = false)
    (t1 : KTup K u1 [.ref (P.fa 0), .ref (P.fa 1)]) (t2 : KTup K u2 [.ref (P.fa 2), .ref (P.fa 2), .ref (P.fa 0)]) (t3 : KTup K u3 [.ref (P.fa 2), .ref (P.fa 2), .ref (P.fa 0)]) : KDc K w P d readersT := by
  have ns : ∀ z, PySem.W.nsIn K d z = some (if ("hear" : Str) = z then some (.ref u1) else if ("do" : Str) = z then some (.ref u2) else if ("tell" : Str) = z then some (.ref u3) else none) := fun z => by
    unfold PySem.W.nsIn
    rw [lR]
    by_cases c1 : ("hear" : Str) = z
    · subst c1; rfl
    · by_cases c2 : ("do" : Str) = z
      · subst c2; rfl
      · by_cases c3 : ("tell" : Str) = z
        · subst c3; rfl
        · have f1 : Value.isStr (.str "hear" k1) z = false := beq_eq_false_iff_ne.mpr c1
          have f2 : Value.isStr (.str "do" k2) z = false := beq_eq_false_iff_ne.mpr c2
          have f3 : Value.isStr (.str "tell" k3) z = false := beq_eq_false_iff_ne.mpr c3
          show (match List.find? (fun e : DictEntry => e.key.isStr z) [⟨h1, .str "hear" k1, .ref u1⟩, ⟨h2, .str "do" k2, .ref u2⟩, ⟨h3, .str "tell" k3, .ref u3⟩] with
            | some e => some (some e.val)
            | none => _) = _
          rw [List.find?_cons_of_neg (by rw [f1]; decide), List.find?_cons_of_neg (by rw [f2]; decide), List.find?_cons_of_neg (by rw [f3]; decide), List.find?_nil, if_neg c1, if_neg c2, if_neg c3]
          rfl
  refine ⟨⟨_, n, lR, ⟨⟨_, _, rfl, e1⟩, ⟨_, _, rfl, e2⟩, ⟨_, _, rfl, e3⟩, trivial⟩, low⟩, fun z => ⟨_, ns z, ?_⟩, fun z x hx => ?_⟩
  · by_cases c1 : ("hear" : Str) = z
    · subst c1; rfl
    · by_cases c2 : ("do" : Str) = z
      · subst c2; rfl
      · by_cases c3 : ("tell" : Str) = z
        · subst c3; rfl
        · simp [readersT, c1, c2, c3]
  · have tp : ∀ {u : Addr} {a b : Nat}, True := fun {u a b} => trivial
    by_cases c1 : ("hear" : Str) = z
    · subst c1
      cases hx
      exact ⟨.ref u1, .ref u1, ns _, rfl, fun L O H => ⟨u1, _, rfl, ⟨by rw [sizeLine_eq]; show _ ≤ 16777216; simp, .inr (by rw [hP]; exact t1)⟩, ⟨_, _, rfl, rfl, _, _, rfl, rfl, rfl⟩⟩⟩
    · by_cases c2 : ("do" : Str) = z
      · subst c2
        cases hx
        exact ⟨.ref u2, .ref u2, ns _, rfl, fun L O H => ⟨u2, _, rfl, ⟨by rw [sizeLine_eq]; show _ ≤ 16777216; simp, .inr (by rw [hP]; exact t2)⟩, ⟨_, _, rfl, rfl, _, _, rfl, rfl, _, _, rfl, rfl, rfl⟩⟩⟩
      · by_cases c3 : ("tell" : Str) = z
        · subst c3
          cases hx
          exact ⟨.ref u3, .ref u3, ns _, rfl, fun L O H => ⟨u3, _, rfl, ⟨by rw [sizeLine_eq]; show _ ≤ 16777216; simp, .inr (by rw [hP]; exact t3)⟩, ⟨_, _, rfl, rfl, _, _, rfl, rfl, _, _, rfl, rfl, rfl⟩⟩⟩
        · have e : (readersT.find? fun p => decide (p.1 = z)) = none := by simp [readersT, c1, c2, c3]
          rw [e] at hx
          cases hx
/-! ### the law's call -/
theorem sp_law {H : Hp} {a : Addr} {ns : List Int} (hl : ns.length ≤ 63) (hT : ∀ p ∈ P.T, H p.1 = some (.tbl #[])) (ha : Rd H a (.lst (ns.map V.int))) : spM P 1 f_law [.ref a] H (fun v _ => v = .bl true) fun _ _ _ => False := by
  obtain ⟨s, hs⟩ := law_ok ns
  have hd : (ns.map D.int).length = (ns.map V.int).length := by rw [List.length_map, List.length_map]
  have da : ∀ l : List Int, DatAll P [] (fun _ => False) H (l.map D.int) (l.map V.int) := fun l => by
    induction l with
    | nil => rfl
    | cons i r ih => exact ⟨_, _, rfl, rfl, ih⟩
  refine ⟨rfl, [], fun _ => False, [], [.lst (ns.map .int)], ⟨rfl, List.nodup_nil, fun n b a e => (by simp at e), fun a h => (by cases h), fun a h => h.elim, fun p hp => ⟨#[], hT p hp, trivial, fun pos cv hc => by cases hc⟩⟩, ⟨_, _, rfl, ⟨a, _, rfl, ⟨by rw [List.length_map, sizeLine_eq]; omega, ha, fun z => z.elim (fun z => by cases z) id⟩, da ns⟩, rfl⟩, ?_⟩
  rw [hs]
  intro L' H' b st v hv
  exact hv
end
end K85

set_option maxRecDepth 100000
set_option maxHeartbeats 4000000
namespace K85
open PySem PySem.Spec PyProof.Rows L2 UH

/-! ### the facts that are looked up -/
def dN (x : Str) (i : Nat) : He.DefD := ⟨(x, none), x, x, C8.fnArgs (top i), C8.fnBody (top i), C8.fnScope (top i), [], []⟩
def fn : List He.DefD := [dN "_law_random_source" 25, dN "row_line" 22, dN "log_lines" 23, dN "_law_fixed_rows" 27, dN "_law_line_of" 28, dN "_law_draw" 26, dN "_law_modified_line" 36, dN "number_in" 14, dN "is_lettered" 8, dN "is_word" 10, dN "word_in" 16, dN "is_name" 9, dN "name_in" 15, dN "entry_read" 18, dN "read_row" 19, dN "_law_is_lowercase" 30, dN "_law_parsed_part" 31, dN "_law_expected_line" 32, dN "_law_check_rows" 38, dN "_law_lines_of" 29, dN "_law_modified_lines" 37, dN "_law_random_any_row" 34, dN "read_log" 20, dN "_law_expected_log" 33, dN "law" 39, dN "_law_read_outcome" 35,
  ⟨("NoText", some "__init__"), "__init__", "NoText.__init__", C8.fnArgs sI, C8.fnBody sI, C8.fnScope sI, [], []⟩]
def fa : List He.Fa := [.glo "_law_random_source", .glo "row_line", .glo "log_lines", .glo "_law_fixed_rows", .glo "_law_line_of", .glo "_law_draw", .glo "_law_modified_line", .glo "number_in", .glo "is_lettered", .glo "is_word", .glo "word_in", .glo "is_name", .glo "name_in", .glo "entry_read", .glo "read_row", .glo "_law_is_lowercase", .glo "_law_parsed_part", .glo "_law_expected_line", .glo "_law_check_rows", .glo "_law_lines_of", .glo "_law_modified_lines", .glo "_law_random_any_row", .glo "read_log", .glo "_law_expected_log", .glo "law", .glo "_law_read_outcome", .glo "NoText", .glo "TextError", .glo "READERS", .free "all", .free "enumerate", .free "int", .free "isinstance", .free "len", .free "list", .free "min", .free "range", .free "repr", .free "str", .free "tuple", .free "zip", .str "FIGURES" "0123456789", .str "LETTERS" "abcdefghijklmnopqrstuvwxyz", .int "LONGEST_NAME" 8, .int "LONGEST_WORD" 4, .int "MOST_FIGURES" 60, .exm "NoText" "NoText" true, .noat "NoText" "line", .noat "NoText" "word"]
def ts : List He.Tab := [(fun K => He.ga K "READERS", ["hear", "do", "tell"])]
def tf : List He.Defn := [("_law_check_rows", none), ("law", none)]
def initB (K : PySem.W.Frag) (C CT : Addr) : Bool :=
  decide (PySem.W.findIn K (.ref C) "__init__" = some (some (.ref (He.ma K C "__init__")))) && decide (PySem.W.typeIn K (.ref (He.ma K C "__init__")) = some (.type "function")) &&
  decide (PySem.W.specialIn K (.ref CT) "__getattribute__" = some (some (.builtin "type.__getattribute__"))) && decide (PySem.W.typeIn K (.ref CT) = some (.type "type")) && PySem.W.readsIn K CT (.type "type") &&
  (match PySem.W.findCls K (.ref CT) (.type "type") "__init__" with | some (.val (.builtin n)) => n == "ValueError.__init__" | _ => false)
def readB (K : PySem.W.Frag) : Bool := match K.lookup (He.ga K "READERS") with
  | some ⟨_, _, .dict es _, _⟩ => (match (es.toList.map DictEntry.val : List Value) with
    | [.ref u1, .ref u2, .ref u3] => tupAtB K u1 [.ref (He.ga K "number_in"), .ref (He.ga K "word_in")] && tupAtB K u2 [.ref (He.ga K "name_in"), .ref (He.ga K "name_in"), .ref (He.ga K "number_in")] && tupAtB K u3 [.ref (He.ga K "name_in"), .ref (He.ga K "name_in"), .ref (He.ga K "number_in")]
    | _ => false)
  | _ => false
abbrev tab1 (K : PySem.W.Frag) : Addr := (He.cT K ("_law_check_rows", none)).2
abbrev tab2 (K : PySem.W.Frag) : Addr := (He.cT K ("law", none)).2
def ex (K : PySem.W.Frag) : Bool := noLst K && oexB K (He.ga K "NoText") && xfB K (He.ga K "NoText") && initB K (He.ga K "NoText") (He.ga K "TextError") && readB K && decide (tab1 K ≠ tab2 K)
def PP (K : PySem.W.Frag) : Pr := ⟨K, fun | 0 => He.ga K "number_in" | 1 => He.ga K "word_in" | _ => He.ga K "name_in", fun _ => He.ga K "NoText", fun _ => ["word", "line"],
  [(tab1 K, "_law_check_rows.<locals>.<lambda>"), (tab2 K, "law.<locals>.<lambda>")]⟩
theorem readB_ok {w : World} {K : PySem.W.Frag} (h : readB K = true) (hd : He.dicW K (He.ga K "READERS") = some (He.keysIn w.params ["hear", "do", "tell"])) : KDc K w (PP K) (He.ga K "READERS") readersT := by
  obtain ⟨es, n, lk, hk, low⟩ := dicW_at hd
  unfold readB at h
  rw [lk] at h
  obtain ⟨l⟩ := es
  have hlen : l.length = 3 := by
    have q := congrArg List.length hk
    rw [List.length_map] at q
    exact q
  match l, hlen with
  | [e1, e2, e3], _ =>
    obtain ⟨h1, hk⟩ := List.cons.inj (show He.keyOf e1 :: [He.keyOf e2, He.keyOf e3] = some _ :: [some _, some _] from hk)
    obtain ⟨h2, hk⟩ := List.cons.inj hk
    obtain ⟨h3, _⟩ := List.cons.inj hk
    obtain ⟨t1, q1⟩ := keyOf_at h1
    obtain ⟨t2, q2⟩ := keyOf_at h2
    obtain ⟨t3, q3⟩ := keyOf_at h3
    have h : (match ([e1.val, e2.val, e3.val] : List Value) with
      | [.ref u1, .ref u2, .ref u3] => tupAtB K u1 [.ref (He.ga K "number_in"), .ref (He.ga K "word_in")] && tupAtB K u2 [.ref (He.ga K "name_in"), .ref (He.ga K "name_in"), .ref (He.ga K "number_in")] && tupAtB K u3 [.ref (He.ga K "name_in"), .ref (He.ga K "name_in"), .ref (He.ga K "number_in")]
      | _ => false) = true := h
    split at h
    · rename_i u1 u2 u3 z
      obtain ⟨z1, z⟩ := List.cons.inj z
      obtain ⟨z2, z⟩ := List.cons.inj z
      obtain ⟨z3, _⟩ := List.cons.inj z
      rw [z1] at q1; rw [z2] at q2; rw [z3] at q3
      obtain ⟨h, b3⟩ := andB h
      obtain ⟨b1, b2⟩ := andB h
      rw [q1, q2, q3] at lk
      exact readers_ok (P := PP K) (a1 := "") (a2 := "") (a3 := "") rfl lk rfl rfl rfl low (tupAtB_ok b1) (tupAtB_ok b2) (tupAtB_ok b3)
    · cases h
theorem sc__law_random_source : FnScope N__law_random_source ["_law_script"] (C8.fnScope s__law_random_source) := ⟨rfl, rfl, rfl, by decide +kernel, rfl, by decide +kernel, by decide +kernel⟩
theorem bk__law_random_source : BindOk "_law_random_source" s__law_random_source ["_law_script"] := fun kV doc pm an cdv ct us hl => match us, hl with | [_], _ => rfl
theorem sc_row_line : FnScope N_row_line ["entry"] (C8.fnScope s_row_line) := ⟨rfl, rfl, rfl, by decide +kernel, rfl, by decide +kernel, by decide +kernel⟩
theorem bk_row_line : BindOk "row_line" s_row_line ["entry"] := fun kV doc pm an cdv ct us hl => match us, hl with | [_], _ => rfl
theorem bw_row_line : BindKw "row_line" s_row_line "entry" := fun kV doc pm an cdv ct u => rfl
theorem sc_log_lines : FnScope N_log_lines ["log"] (C8.fnScope s_log_lines) := ⟨rfl, rfl, rfl, by decide +kernel, rfl, by decide +kernel, by decide +kernel⟩
theorem bk_log_lines : BindOk "log_lines" s_log_lines ["log"] := fun kV doc pm an cdv ct us hl => match us, hl with | [_], _ => rfl
theorem bw_log_lines : BindKw "log_lines" s_log_lines "log" := fun kV doc pm an cdv ct u => rfl
theorem sc__law_fixed_rows : FnScope N__law_fixed_rows [] (C8.fnScope s__law_fixed_rows) := ⟨rfl, rfl, rfl, by decide +kernel, rfl, by decide +kernel, by decide +kernel⟩
theorem bk__law_fixed_rows : BindOk "_law_fixed_rows" s__law_fixed_rows [] := fun kV doc pm an cdv ct us hl => match us, hl with | [], _ => rfl
theorem sc__law_line_of : FnScope N__law_line_of ["_law_step"] (C8.fnScope s__law_line_of) := ⟨rfl, rfl, rfl, by decide +kernel, rfl, by decide +kernel, by decide +kernel⟩
theorem bk__law_line_of : BindOk "_law_line_of" s__law_line_of ["_law_step"] := fun kV doc pm an cdv ct us hl => match us, hl with | [_], _ => rfl
theorem sc__law_draw : FnScope N__law_draw ["_law_rng", "_law_many"] (C8.fnScope s__law_draw) := ⟨rfl, rfl, rfl, by decide +kernel, rfl, by decide +kernel, by decide +kernel⟩
theorem bk__law_draw : BindOk "_law_draw" s__law_draw ["_law_rng", "_law_many"] := fun kV doc pm an cdv ct us hl => match us, hl with | [_, _], _ => rfl
theorem sc__law_modified_line : FnScope N__law_modified_line ["_law_rng", "_law_page"] (C8.fnScope s__law_modified_line) := ⟨rfl, rfl, rfl, by decide +kernel, rfl, by decide +kernel, by decide +kernel⟩
theorem bk__law_modified_line : BindOk "_law_modified_line" s__law_modified_line ["_law_rng", "_law_page"] := fun kV doc pm an cdv ct us hl => match us, hl with | [_, _], _ => rfl
theorem sc_number_in : FnScope N_number_in ["text"] (C8.fnScope s_number_in) := ⟨rfl, rfl, rfl, by decide +kernel, rfl, by decide +kernel, by decide +kernel⟩
theorem bk_number_in : BindOk "number_in" s_number_in ["text"] := fun kV doc pm an cdv ct us hl => match us, hl with | [_], _ => rfl
theorem sc_is_lettered : FnScope N_is_lettered ["thing", "most"] (C8.fnScope s_is_lettered) := ⟨rfl, rfl, rfl, by decide +kernel, rfl, by decide +kernel, by decide +kernel⟩
theorem bk_is_lettered : BindOk "is_lettered" s_is_lettered ["thing", "most"] := fun kV doc pm an cdv ct us hl => match us, hl with | [_, _], _ => rfl
theorem sc_is_word : FnScope N_is_word ["thing"] (C8.fnScope s_is_word) := ⟨rfl, rfl, rfl, by decide +kernel, rfl, by decide +kernel, by decide +kernel⟩
theorem bk_is_word : BindOk "is_word" s_is_word ["thing"] := fun kV doc pm an cdv ct us hl => match us, hl with | [_], _ => rfl
theorem sc_word_in : FnScope N_word_in ["text"] (C8.fnScope s_word_in) := ⟨rfl, rfl, rfl, by decide +kernel, rfl, by decide +kernel, by decide +kernel⟩
theorem bk_word_in : BindOk "word_in" s_word_in ["text"] := fun kV doc pm an cdv ct us hl => match us, hl with | [_], _ => rfl
theorem sc_is_name : FnScope N_is_name ["thing"] (C8.fnScope s_is_name) := ⟨rfl, rfl, rfl, by decide +kernel, rfl, by decide +kernel, by decide +kernel⟩
theorem bk_is_name : BindOk "is_name" s_is_name ["thing"] := fun kV doc pm an cdv ct us hl => match us, hl with | [_], _ => rfl
theorem sc_name_in : FnScope N_name_in ["text"] (C8.fnScope s_name_in) := ⟨rfl, rfl, rfl, by decide +kernel, rfl, by decide +kernel, by decide +kernel⟩
theorem bk_name_in : BindOk "name_in" s_name_in ["text"] := fun kV doc pm an cdv ct us hl => match us, hl with | [_], _ => rfl
theorem sc_entry_read : FnScope N_entry_read ["text", "number"] (C8.fnScope s_entry_read) := ⟨rfl, rfl, rfl, by decide +kernel, rfl, by decide +kernel, by decide +kernel⟩
theorem bk_entry_read : BindOk "entry_read" s_entry_read ["text", "number"] := fun kV doc pm an cdv ct us hl => match us, hl with | [_, _], _ => rfl
theorem sc_read_row : FnScope N_read_row ["text"] (C8.fnScope s_read_row) := ⟨rfl, rfl, rfl, by decide +kernel, rfl, by decide +kernel, by decide +kernel⟩
theorem bk_read_row : BindOk "read_row" s_read_row ["text"] := fun kV doc pm an cdv ct us hl => match us, hl with | [_], _ => rfl
theorem bw_read_row : BindKw "read_row" s_read_row "text" := fun kV doc pm an cdv ct u => rfl
theorem sc__law_is_lowercase : FnScope N__law_is_lowercase ["_law_part", "_law_most"] (C8.fnScope s__law_is_lowercase) := ⟨rfl, rfl, rfl, by decide +kernel, rfl, by decide +kernel, by decide +kernel⟩
theorem bk__law_is_lowercase : BindOk "_law_is_lowercase" s__law_is_lowercase ["_law_part", "_law_most"] := fun kV doc pm an cdv ct us hl => match us, hl with | [_, _], _ => rfl
theorem sc__law_parsed_part : FnScope N__law_parsed_part ["_law_sort", "_law_part"] (C8.fnScope s__law_parsed_part) := ⟨rfl, rfl, rfl, by decide +kernel, rfl, by decide +kernel, by decide +kernel⟩
theorem bk__law_parsed_part : BindOk "_law_parsed_part" s__law_parsed_part ["_law_sort", "_law_part"] := fun kV doc pm an cdv ct us hl => match us, hl with | [_, _], _ => rfl
theorem sc__law_expected_line : FnScope N__law_expected_line ["_law_page", "_law_at"] (C8.fnScope s__law_expected_line) := ⟨rfl, rfl, rfl, by decide +kernel, rfl, by decide +kernel, by decide +kernel⟩
theorem bk__law_expected_line : BindOk "_law_expected_line" s__law_expected_line ["_law_page", "_law_at"] := fun kV doc pm an cdv ct us hl => match us, hl with | [_, _], _ => rfl
theorem sc__law_check_rows : FnScope N__law_check_rows ["_law_rng", "_law_steps"] (C8.fnScope s__law_check_rows) := ⟨rfl, rfl, rfl, by decide +kernel, rfl, by decide +kernel, by decide +kernel⟩
theorem bk__law_check_rows : BindOk "_law_check_rows" s__law_check_rows ["_law_rng", "_law_steps"] := fun kV doc pm an cdv ct us hl => match us, hl with | [_, _], _ => rfl
theorem sc__law_lines_of : FnScope N__law_lines_of ["_law_steps"] (C8.fnScope s__law_lines_of) := ⟨rfl, rfl, rfl, by decide +kernel, rfl, by decide +kernel, by decide +kernel⟩
theorem bk__law_lines_of : BindOk "_law_lines_of" s__law_lines_of ["_law_steps"] := fun kV doc pm an cdv ct us hl => match us, hl with | [_], _ => rfl
theorem sc__law_modified_lines : FnScope N__law_modified_lines ["_law_rng", "_law_pages"] (C8.fnScope s__law_modified_lines) := ⟨rfl, rfl, rfl, by decide +kernel, rfl, by decide +kernel, by decide +kernel⟩
theorem bk__law_modified_lines : BindOk "_law_modified_lines" s__law_modified_lines ["_law_rng", "_law_pages"] := fun kV doc pm an cdv ct us hl => match us, hl with | [_, _], _ => rfl
theorem sc__law_random_any_row : FnScope N__law_random_any_row ["_law_rng"] (C8.fnScope s__law_random_any_row) := ⟨rfl, rfl, rfl, by decide +kernel, rfl, by decide +kernel, by decide +kernel⟩
theorem bk__law_random_any_row : BindOk "_law_random_any_row" s__law_random_any_row ["_law_rng"] := fun kV doc pm an cdv ct us hl => match us, hl with | [_], _ => rfl
theorem sc_read_log : FnScope N_read_log ["lines"] (C8.fnScope s_read_log) := ⟨rfl, rfl, rfl, by decide +kernel, rfl, by decide +kernel, by decide +kernel⟩
theorem bk_read_log : BindOk "read_log" s_read_log ["lines"] := fun kV doc pm an cdv ct us hl => match us, hl with | [_], _ => rfl
theorem bw_read_log : BindKw "read_log" s_read_log "lines" := fun kV doc pm an cdv ct u => rfl
theorem sc__law_expected_log : FnScope N__law_expected_log ["_law_pages"] (C8.fnScope s__law_expected_log) := ⟨rfl, rfl, rfl, by decide +kernel, rfl, by decide +kernel, by decide +kernel⟩
theorem bk__law_expected_log : BindOk "_law_expected_log" s__law_expected_log ["_law_pages"] := fun kV doc pm an cdv ct us hl => match us, hl with | [_], _ => rfl
theorem sc_law : FnScope N_law ["_law_script"] (C8.fnScope s_law) := ⟨rfl, rfl, rfl, by decide +kernel, rfl, by decide +kernel, by decide +kernel⟩
theorem bk_law : BindOk "law" s_law ["_law_script"] := fun kV doc pm an cdv ct us hl => match us, hl with | [_], _ => rfl
theorem df_of {K : PySem.W.Frag} {x : Str} {st : Stmt} {f : Addr} (h : ∃ fd, FunD K x x (C8.fnArgs st) (C8.fnBody st) (C8.fnScope st) [] [] f fd) : ∃ cdv, Df K x st f cdv := by
  obtain ⟨cdv, D⟩ := dfq_of h
  exact ⟨cdv, D.ex, D.cd, D.kp⟩
theorem df_tab {K : PySem.W.Frag} {x : Str} {st : Stmt} (h : ∃ fd, FunD K x x (C8.fnArgs st) (C8.fnBody st) (C8.fnScope st) [] [] (He.fAd K (x, none)) fd) : Df K x st (He.ga K x) (.ref (He.cT K (x, none)).1) := by
  obtain ⟨cdv, D⟩ := dfq_of h
  have e := cd_of D
  subst e
  exact ⟨D.ex, D.cd, D.kp⟩
theorem lm_1 {K : PySem.W.Frag} {mg : Str → Option Value} {base : Heap} (hne : tab1 K ≠ tab2 K) (T : LamX.TabB base mg (He.cT K ("_law_check_rows", none)).1 (tab1 K)) : Lm mg base (PP K) (.ref (He.cT K ("_law_check_rows", none)).1) (("_law_check_rows" : Str) ++ ".<locals>.") := by
  refine ⟨_, tab1 K, rfl, T, List.mem_cons_self, fun p hp e => ?_⟩
  rcases List.mem_cons.mp hp with rfl | hp
  · rfl
  · rcases List.mem_cons.mp hp with rfl | hp
    · exact absurd e.symm hne
    · cases hp
theorem lm_2 {K : PySem.W.Frag} {mg : Str → Option Value} {base : Heap} (hne : tab1 K ≠ tab2 K) (T : LamX.TabB base mg (He.cT K ("law", none)).1 (tab2 K)) : Lm mg base (PP K) (.ref (He.cT K ("law", none)).1) (("law" : Str) ++ ".<locals>.") := by
  refine ⟨_, tab2 K, rfl, T, List.mem_cons_of_mem _ List.mem_cons_self, fun p hp e => ?_⟩
  rcases List.mem_cons.mp hp with rfl | hp
  · exact absurd e hne
  · rcases List.mem_cons.mp hp with rfl | hp
    · rfl
    · cases hp
section
variable {w : World} {K : PySem.W.Frag} {mg : Str → Option Value} {h : Heap}
theorem fx_mk (X : K.In h) (G : h.Ns mainGlobals mg) (c : He.SaysX fa fn ts tf ex w h K) : Fx w K mg (PP K) := by
  obtain ⟨b, b6⟩ := andB c.more
  obtain ⟨b, b5⟩ := andB b
  obtain ⟨b, b4⟩ := andB b
  obtain ⟨b, b3⟩ := andB b
  obtain ⟨b1, b2⟩ := andB b
  obtain ⟨b4, i6⟩ := andB b4
  obtain ⟨b4, i5⟩ := andB b4
  obtain ⟨b4, i4⟩ := andB b4
  obtain ⟨b4, i3⟩ := andB b4
  obtain ⟨i1, i2⟩ := andB b4
  have ht : He.dicW K (He.ga K "READERS") = some (He.keysIn w.params ["hear", "do", "tell"]) := by
    have e : ts.map (fun t => He.dicW K (t.1 K)) = ts.map fun t => some (He.keysIn w.params t.2) := congrArg (fun z : He.AlT => z.2) c.t
    exact (List.cons.inj e).1
  have hI : PySem.W.findCls K (.ref (He.ga K "TextError")) (.type "type") "__init__" = some (.val (.builtin "ValueError.__init__")) := by
    split at i6
    · rename_i n e
      rw [e, beq_iff_eq.mp i6]
    · cases i6
  obtain ⟨cI, DI⟩ := dfq_of (x := "__init__") (qual := "NoText.__init__") (st := sI) (f := He.ma K (He.ga K "NoText") "__init__") (c.t.d.def_ 26 rfl)
  obtain ⟨oc, od, kV, doc, pm, an, ct, osl, lk⟩ := DI.ex
  obtain ⟨cO, DO⟩ := dfq_of (x := "_law_read_outcome") (qual := "_law_read_outcome") (st := top 35) (f := He.ga K "_law_read_outcome") (c.t.d.def_ 25 rfl)
  obtain ⟨oc2, od2, kV2, doc2, pm2, an2, ct2, osl2, lk2⟩ := DO.ex
  exact {
    hK := rfl
    z_all := He.free_ok X G (c.t.d.fact 29 rfl)
    z_enumerate := He.free_ok X G (c.t.d.fact 30 rfl)
    z_int := He.free_ok X G (c.t.d.fact 31 rfl)
    z_isinstance := He.free_ok X G (c.t.d.fact 32 rfl)
    z_len := He.free_ok X G (c.t.d.fact 33 rfl)
    z_list := He.free_ok X G (c.t.d.fact 34 rfl)
    z_min := He.free_ok X G (c.t.d.fact 35 rfl)
    z_range := He.free_ok X G (c.t.d.fact 36 rfl)
    z_repr := He.free_ok X G (c.t.d.fact 37 rfl)
    z_str := He.free_ok X G (c.t.d.fact 38 rfl)
    z_tuple := He.free_ok X G (c.t.d.fact 39 rfl)
    z_zip := He.free_ok X G (c.t.d.fact 40 rfl)
    g_FIGURES := He.str_ok X G (c.t.d.fact 41 rfl)
    g_LETTERS := He.str_ok X G (c.t.d.fact 42 rfl)
    g_LONGEST_NAME := He.int_ok X G (c.t.d.fact 43 rfl)
    g_LONGEST_WORD := He.int_ok X G (c.t.d.fact 44 rfl)
    g_MOST_FIGURES := He.int_ok X G (c.t.d.fact 45 rfl)
    fa0 := He.glo_ok X G (c.t.d.fact 7 rfl)
    fa1 := He.glo_ok X G (c.t.d.fact 10 rfl)
    fa2 := He.glo_ok X G (c.t.d.fact 12 rfl)
    fl := rfl
    rd := ⟨_, He.glo_ok X G (c.t.d.fact 28 rfl), readB_ok b5 ht⟩
    mC := He.glo_ok X G (c.t.d.fact 26 rfl)
    oex := oexB_ok b2
    xf := xfB_ok b3
    exm := He.exm_ok (c.t.d.fact 46 rfl)
    noL := He.noat_ok (c.t.d.fact 47 rfl)
    noW := He.noat_ok (c.t.d.fact 48 rfl)
    init := ⟨_, _, of_decide_eq_true i1, of_decide_eq_true i2, .all (fun us hl => match us, hl with | [_, _, _], _ => rfl), fun base _ _ => init_ok (He.glo_ok X G (c.t.d.fact 27 rfl)) (of_decide_eq_true i3) (of_decide_eq_true i4) i5 hI (oexB_ok b2) (He.noat_ok (c.t.d.fact 47 rfl)) (He.noat_ok (c.t.d.fact 48 rfl)) lk DI.cd⟩
    out := ⟨_, oc2, .none, kV2, doc2, pm2, cO, ct2, an2, od2, osl2, He.glo_ok X G (c.t.d.fact 25 rfl), DO.kp, DO.cd, lk2, .all (fun us hl => match us, hl with | [_], _ => rfl)⟩ }
theorem law_at (X : K.In h) (G : h.Ns mainGlobals mg) (c : He.SaysX fa fn ts tf ex w h K) : ∃ fd : FuncData, (∀ (s : Shared) (u : Value), BindsTo s fd ⟨[u], []⟩ [("_law_script", u)]) ∧ ∀ base : Heap, K.In base → base.Ns mainGlobals mg →
    (∀ p ∈ tf.map (He.cT K), LamX.TabB base mg p.1 p.2) → FnG Pg w K mg base 11 (He.ga K "law") fd ["_law_script"] (spM (PP K) 1 f_law) := by
  have fx := fx_mk X G c
  obtain ⟨b, b6⟩ := andB c.more
  have hne := of_decide_eq_true b6
  obtain ⟨c__law_random_source, D__law_random_source⟩ := df_of (x := "_law_random_source") (st := s__law_random_source) (f := He.ga K "_law_random_source") (c.t.d.def_ 0 rfl)
  obtain ⟨c_row_line, D_row_line⟩ := df_of (x := "row_line") (st := s_row_line) (f := He.ga K "row_line") (c.t.d.def_ 1 rfl)
  obtain ⟨c_log_lines, D_log_lines⟩ := df_of (x := "log_lines") (st := s_log_lines) (f := He.ga K "log_lines") (c.t.d.def_ 2 rfl)
  obtain ⟨c__law_fixed_rows, D__law_fixed_rows⟩ := df_of (x := "_law_fixed_rows") (st := s__law_fixed_rows) (f := He.ga K "_law_fixed_rows") (c.t.d.def_ 3 rfl)
  obtain ⟨c__law_line_of, D__law_line_of⟩ := df_of (x := "_law_line_of") (st := s__law_line_of) (f := He.ga K "_law_line_of") (c.t.d.def_ 4 rfl)
  obtain ⟨c__law_draw, D__law_draw⟩ := df_of (x := "_law_draw") (st := s__law_draw) (f := He.ga K "_law_draw") (c.t.d.def_ 5 rfl)
  obtain ⟨c__law_modified_line, D__law_modified_line⟩ := df_of (x := "_law_modified_line") (st := s__law_modified_line) (f := He.ga K "_law_modified_line") (c.t.d.def_ 6 rfl)
  obtain ⟨c_number_in, D_number_in⟩ := df_of (x := "number_in") (st := s_number_in) (f := He.ga K "number_in") (c.t.d.def_ 7 rfl)
  obtain ⟨c_is_lettered, D_is_lettered⟩ := df_of (x := "is_lettered") (st := s_is_lettered) (f := He.ga K "is_lettered") (c.t.d.def_ 8 rfl)
  obtain ⟨c_is_word, D_is_word⟩ := df_of (x := "is_word") (st := s_is_word) (f := He.ga K "is_word") (c.t.d.def_ 9 rfl)
  obtain ⟨c_word_in, D_word_in⟩ := df_of (x := "word_in") (st := s_word_in) (f := He.ga K "word_in") (c.t.d.def_ 10 rfl)
  obtain ⟨c_is_name, D_is_name⟩ := df_of (x := "is_name") (st := s_is_name) (f := He.ga K "is_name") (c.t.d.def_ 11 rfl)
  obtain ⟨c_name_in, D_name_in⟩ := df_of (x := "name_in") (st := s_name_in) (f := He.ga K "name_in") (c.t.d.def_ 12 rfl)
  obtain ⟨c_entry_read, D_entry_read⟩ := df_of (x := "entry_read") (st := s_entry_read) (f := He.ga K "entry_read") (c.t.d.def_ 13 rfl)
  obtain ⟨c_read_row, D_read_row⟩ := df_of (x := "read_row") (st := s_read_row) (f := He.ga K "read_row") (c.t.d.def_ 14 rfl)
  obtain ⟨c__law_is_lowercase, D__law_is_lowercase⟩ := df_of (x := "_law_is_lowercase") (st := s__law_is_lowercase) (f := He.ga K "_law_is_lowercase") (c.t.d.def_ 15 rfl)
  obtain ⟨c__law_parsed_part, D__law_parsed_part⟩ := df_of (x := "_law_parsed_part") (st := s__law_parsed_part) (f := He.ga K "_law_parsed_part") (c.t.d.def_ 16 rfl)
  obtain ⟨c__law_expected_line, D__law_expected_line⟩ := df_of (x := "_law_expected_line") (st := s__law_expected_line) (f := He.ga K "_law_expected_line") (c.t.d.def_ 17 rfl)
  have D__law_check_rows := df_tab (x := "_law_check_rows") (st := s__law_check_rows) (c.t.d.def_ 18 rfl)
  obtain ⟨c__law_lines_of, D__law_lines_of⟩ := df_of (x := "_law_lines_of") (st := s__law_lines_of) (f := He.ga K "_law_lines_of") (c.t.d.def_ 19 rfl)
  obtain ⟨c__law_modified_lines, D__law_modified_lines⟩ := df_of (x := "_law_modified_lines") (st := s__law_modified_lines) (f := He.ga K "_law_modified_lines") (c.t.d.def_ 20 rfl)
  obtain ⟨c__law_random_any_row, D__law_random_any_row⟩ := df_of (x := "_law_random_any_row") (st := s__law_random_any_row) (f := He.ga K "_law_random_any_row") (c.t.d.def_ 21 rfl)
  obtain ⟨c_read_log, D_read_log⟩ := df_of (x := "read_log") (st := s_read_log) (f := He.ga K "read_log") (c.t.d.def_ 22 rfl)
  obtain ⟨c__law_expected_log, D__law_expected_log⟩ := df_of (x := "_law_expected_log") (st := s__law_expected_log) (f := He.ga K "_law_expected_log") (c.t.d.def_ 23 rfl)
  have D_law := df_tab (x := "law") (st := s_law) (c.t.d.def_ 24 rfl)
  obtain ⟨ocL, odL, kVL, docL, pmL, anL, ctL, oslL, lkL⟩ := D_law.ex
  refine ⟨PySem.W.fnOf "law" "law" (C8.fnArgs s_law) (C8.fnBody s_law) (C8.fnScope s_law) .none kVL docL pmL anL (.ref (He.cT K ("law", none)).1) ctL, fun s u => .of_eq (bk_law kVL docL pmL anL _ ctL [u] rfl), fun base hb gb hT => ?_⟩
  have F__law_random_source : FdC Pg w K mg base 1 "_law_random_source" (spN (PP K) 1 f__law_random_source) := fd_ofN (P := PP K) D__law_random_source (He.glo_ok X G (c.t.d.fact 0 rfl)) sc__law_random_source rfl (by decide) bk__law_random_source (b__law_random_source fx)
  have F_row_line : FdC Pg w K mg base 1 "row_line" (spM (PP K) 1 f_row_line) := fd_of (P := PP K) D_row_line (He.glo_ok X G (c.t.d.fact 1 rfl)) sc_row_line rfl (by decide) bk_row_line (b_row_line fx)
  have K_row_line : FkC Pg w K mg base 1 "row_line" (spM (PP K) 1 f_row_line) 0 ["entry"] (fun _ es => es) := fk_of (P := PP K) D_row_line (He.glo_ok X G (c.t.d.fact 1 rfl)) sc_row_line (by decide) bw_row_line (b_row_line fx)
  have F_log_lines : FdC Pg w K mg base 2 "log_lines" (spN (PP K) 1 f_log_lines) := fd_ofN (P := PP K) D_log_lines (He.glo_ok X G (c.t.d.fact 2 rfl)) sc_log_lines rfl (by decide) bk_log_lines (b_log_lines fx F_row_line)
  have K_log_lines : FkC Pg w K mg base 2 "log_lines" (spN (PP K) 1 f_log_lines) 0 ["log"] (fun _ es => es) := fk_ofN (P := PP K) D_log_lines (He.glo_ok X G (c.t.d.fact 2 rfl)) sc_log_lines (by decide) bw_log_lines (b_log_lines fx F_row_line)
  have F__law_fixed_rows : FdC Pg w K mg base 1 "_law_fixed_rows" (spM (PP K) 0 f__law_fixed_rows) := fd_of (P := PP K) D__law_fixed_rows (He.glo_ok X G (c.t.d.fact 3 rfl)) sc__law_fixed_rows rfl (by decide) bk__law_fixed_rows (b__law_fixed_rows fx)
  have F__law_line_of : FdC Pg w K mg base 1 "_law_line_of" (spM (PP K) 1 f__law_line_of) := fd_of (P := PP K) D__law_line_of (He.glo_ok X G (c.t.d.fact 4 rfl)) sc__law_line_of rfl (by decide) bk__law_line_of (b__law_line_of fx)
  have F__law_draw : FdC Pg w K mg base 1 "_law_draw" (spM (PP K) 2 f__law_draw) := fd_of (P := PP K) D__law_draw (He.glo_ok X G (c.t.d.fact 5 rfl)) sc__law_draw rfl (by decide) bk__law_draw (b__law_draw fx)
  have F__law_modified_line : FdC Pg w K mg base 2 "_law_modified_line" (spM (PP K) 2 f__law_modified_line) := fd_of (P := PP K) D__law_modified_line (He.glo_ok X G (c.t.d.fact 6 rfl)) sc__law_modified_line rfl (by decide) bk__law_modified_line (b__law_modified_line fx F__law_draw)
  have F_number_in : FdC Pg w K mg base 1 "number_in" (spM (PP K) 1 f_number_in) := fd_of (P := PP K) D_number_in (He.glo_ok X G (c.t.d.fact 7 rfl)) sc_number_in rfl (by decide) bk_number_in (b_number_in fx)
  have F_is_lettered : FdC Pg w K mg base 1 "is_lettered" (spM (PP K) 2 f_is_lettered) := fd_of (P := PP K) D_is_lettered (He.glo_ok X G (c.t.d.fact 8 rfl)) sc_is_lettered rfl (by decide) bk_is_lettered (b_is_lettered fx)
  have F_is_word : FdC Pg w K mg base 2 "is_word" (spM (PP K) 1 f_is_word) := fd_of (P := PP K) D_is_word (He.glo_ok X G (c.t.d.fact 9 rfl)) sc_is_word rfl (by decide) bk_is_word (b_is_word fx F_is_lettered)
  have F_word_in : FdC Pg w K mg base 3 "word_in" (spM (PP K) 1 f_word_in) := fd_of (P := PP K) D_word_in (He.glo_ok X G (c.t.d.fact 10 rfl)) sc_word_in rfl (by decide) bk_word_in (b_word_in fx F_is_word)
  have F_is_name : FdC Pg w K mg base 2 "is_name" (spM (PP K) 1 f_is_name) := fd_of (P := PP K) D_is_name (He.glo_ok X G (c.t.d.fact 11 rfl)) sc_is_name rfl (by decide) bk_is_name (b_is_name fx F_is_lettered)
  have F_name_in : FdC Pg w K mg base 3 "name_in" (spM (PP K) 1 f_name_in) := fd_of (P := PP K) D_name_in (He.glo_ok X G (c.t.d.fact 12 rfl)) sc_name_in rfl (by decide) bk_name_in (b_name_in fx F_is_name)
  have F_entry_read : FdC Pg w K mg base 4 "entry_read" (spM (PP K) 2 f_entry_read) := fd_of (P := PP K) D_entry_read (He.glo_ok X G (c.t.d.fact 13 rfl)) sc_entry_read rfl (by decide) bk_entry_read (b_entry_read ⟨hb, gb⟩ fx F_number_in F_word_in F_name_in)
  have F_read_row : FdC Pg w K mg base 5 "read_row" (spM (PP K) 1 f_read_row) := fd_of (P := PP K) D_read_row (He.glo_ok X G (c.t.d.fact 14 rfl)) sc_read_row rfl (by decide) bk_read_row (b_read_row fx F_entry_read)
  have K_read_row : FkC Pg w K mg base 5 "read_row" (spM (PP K) 1 f_read_row) 0 ["text"] (fun _ es => es) := fk_of (P := PP K) D_read_row (He.glo_ok X G (c.t.d.fact 14 rfl)) sc_read_row (by decide) bw_read_row (b_read_row fx F_entry_read)
  have F__law_is_lowercase : FdC Pg w K mg base 1 "_law_is_lowercase" (spM (PP K) 2 f__law_is_lowercase) := fd_of (P := PP K) D__law_is_lowercase (He.glo_ok X G (c.t.d.fact 15 rfl)) sc__law_is_lowercase rfl (by decide) bk__law_is_lowercase (b__law_is_lowercase fx)
  have F__law_parsed_part : FdC Pg w K mg base 2 "_law_parsed_part" (spM (PP K) 2 f__law_parsed_part) := fd_of (P := PP K) D__law_parsed_part (He.glo_ok X G (c.t.d.fact 16 rfl)) sc__law_parsed_part rfl (by decide) bk__law_parsed_part (b__law_parsed_part fx F__law_is_lowercase)
  have F__law_expected_line : FdC Pg w K mg base 3 "_law_expected_line" (spM (PP K) 2 f__law_expected_line) := fd_of (P := PP K) D__law_expected_line (He.glo_ok X G (c.t.d.fact 17 rfl)) sc__law_expected_line rfl (by decide) bk__law_expected_line (b__law_expected_line fx F__law_parsed_part)
  have F__law_check_rows : FdC Pg w K mg base 8 "_law_check_rows" (spM (PP K) 2 f__law_check_rows) := fd_of (P := PP K) D__law_check_rows (He.glo_ok X G (c.t.d.fact 18 rfl)) sc__law_check_rows rfl (by decide) bk__law_check_rows (b__law_check_rows (lm_1 hne (hT _ List.mem_cons_self)) fx F__law_line_of F_row_line F_read_row F__law_modified_line F__law_expected_line K_row_line K_read_row)
  have F__law_lines_of : FdC Pg w K mg base 2 "_law_lines_of" (spN (PP K) 1 f__law_lines_of) := fd_ofN (P := PP K) D__law_lines_of (He.glo_ok X G (c.t.d.fact 19 rfl)) sc__law_lines_of rfl (by decide) bk__law_lines_of (b__law_lines_of fx F__law_line_of)
  have F__law_modified_lines : FdC Pg w K mg base 3 "_law_modified_lines" (spM (PP K) 2 f__law_modified_lines) := fd_of (P := PP K) D__law_modified_lines (He.glo_ok X G (c.t.d.fact 20 rfl)) sc__law_modified_lines rfl (by decide) bk__law_modified_lines (b__law_modified_lines fx F__law_draw F__law_modified_line)
  have F__law_random_any_row : FdC Pg w K mg base 2 "_law_random_any_row" (spM (PP K) 1 f__law_random_any_row) := fd_of (P := PP K) D__law_random_any_row (He.glo_ok X G (c.t.d.fact 21 rfl)) sc__law_random_any_row rfl (by decide) bk__law_random_any_row (b__law_random_any_row fx F__law_draw)
  have F_read_log : FdC Pg w K mg base 5 "read_log" (spM (PP K) 1 f_read_log) := fd_of (P := PP K) D_read_log (He.glo_ok X G (c.t.d.fact 22 rfl)) sc_read_log rfl (by decide) bk_read_log (b_read_log fx F_entry_read)
  have K_read_log : FkC Pg w K mg base 5 "read_log" (spM (PP K) 1 f_read_log) 0 ["lines"] (fun _ es => es) := fk_of (P := PP K) D_read_log (He.glo_ok X G (c.t.d.fact 22 rfl)) sc_read_log (by decide) bw_read_log (b_read_log fx F_entry_read)
  have F__law_expected_log : FdC Pg w K mg base 4 "_law_expected_log" (spM (PP K) 1 f__law_expected_log) := fd_of (P := PP K) D__law_expected_log (He.glo_ok X G (c.t.d.fact 23 rfl)) sc__law_expected_log rfl (by decide) bk__law_expected_log (b__law_expected_log fx F__law_expected_line)
  exact def_ok lkL D_law.cd sc_law rfl (by decide) (b_law (lm_2 hne (hT _ (List.mem_cons_of_mem _ List.mem_cons_self))) fx F__law_random_source F__law_fixed_rows F__law_random_any_row F__law_check_rows F_read_row F__law_expected_line F__law_lines_of F_log_lines F_read_log F__law_modified_lines F__law_expected_log K_read_row K_log_lines K_read_log)
theorem law_G {fL : Addr} (X : K.In h) (G : h.Ns mainGlobals mg) (hmg : mg "law" = some (.ref fL)) (c : He.SaysX fa fn ts tf ex w h K) : LawG PySem.Challenge.rw_underheard_k85_lines_there_and_back w K 11 63 "_law_script" mg fL h := by
  have e := hmg.symm.trans (He.glo_ok X G (c.t.d.fact 24 rfl))
  cases e
  obtain ⟨fd, hb, hF⟩ := law_at X G c
  obtain ⟨b, _⟩ := andB c.more
  obtain ⟨b, _⟩ := andB b
  obtain ⟨b, _⟩ := andB b
  obtain ⟨b, _⟩ := andB b
  obtain ⟨b1, _⟩ := andB b
  have key : ∀ p ∈ tf.map (He.cT K), ∃ q ∈ tf, He.cT K q = p := fun p hp => List.mem_map.mp hp
  refine ⟨noLst_ok b1, fd, tf.map (He.cT K), spM (PP K) 1 f_law, fun p hp => ?_, fun p hp => ?_, fun p hp => ?_, hb, fun H a ns hl hT ha => sp_law hl (fun p hp => ?_) ha, hF⟩
  · obtain ⟨q, hq, rfl⟩ := key p hp; exact c.empty q hq
  · obtain ⟨q, hq, rfl⟩ := key p hp; exact c.out q hq
  · obtain ⟨q, hq, rfl⟩ := key p hp; exact PySem.W.codeHd_of_K X (c.hd q hq)
  · rcases List.mem_cons.mp hp with rfl | hp
    · exact hT _ List.mem_cons_self
    · rcases List.mem_cons.mp hp with rfl | hp
      · exact hT _ (List.mem_cons_of_mem _ List.mem_cons_self)
      · cases hp
end
end K85

set_option maxRecDepth 100000
set_option maxHeartbeats 0
namespace K85
open PySem PySem.Spec PyProof.Rows L2 UH
abbrev RR : PySem.W.OpenRow := PySem.W.OpenLaw.row PySem.Challenge.rw_underheard_k85_lines_there_and_back
def names0 : List Str := ["HeardError", "TextError", "NoText", "LETTERS", "LONGEST_NAME", "LONGEST_WORD", "is_lettered", "is_name", "is_word", "FIGURES", "MOST_FIGURES", "number_in", "name_in", "word_in", "READERS", "entry_read", "read_row", "read_log", "row_line", "log_lines", "_law_random_source", "_law_draw", "_law_fixed_rows", "_law_line_of", "_law_lines_of", "_law_is_lowercase", "_law_parsed_part", "_law_expected_line", "_law_expected_log", "_law_random_any_row"]
def names1 : List Str := ["_law_read_outcome", "_law_modified_line", "_law_modified_lines", "_law_check_rows"]
def names : List Str := names0 ++ names1
abbrev hk : PySem.W.Hook := hookY 6 [cStatics] fa fn ts tf ex
end K85
open PySem PySem.W PySem.Calls PyProof.Rows
set_option maxRecDepth 100000 in
set_option maxHeartbeats 0 in
theorem PySem.Challenge.cw_underheard_k85_lines_there_and_back_holds : PySem.Challenge.rw_underheard_k85_lines_there_and_back.Holds := by
  w_on; o_law; o_head K85.hk
  case hw => w_witness2
  case hc =>
    refine UH.walkGE (l := PySem.Challenge.rw_underheard_k85_lines_there_and_back) (n := 63) (k := 11) (x := "_law_script") rfl (by decide) (by kernel_rfl) ⟨rfl, by decide, by decide⟩ ?F
    intro w mg fa h Y G hmg0
    obtain ⟨K, KX, c⟩ := Y
    exact ⟨K, KX, K85.law_G KX G hmg0 c⟩

