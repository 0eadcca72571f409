import PyProof.Rows.All
import Wide.All
import OpenK.AllK
import Wide.FinOn
import HandS.ForMost
import HandS.Iter
import HandS.Deep
import HandS.TupAny
import HandS.Wide
import HandS.SetKeys
import HandS.DictComp
import HandS.SortOrd
import HandS.SortInts
import HandS.Zip
import HandS.IsInst
import HandS.Codes
import HandS.Conv
import HandS.Style
import HandS.TupMul
import HandS.More
import HandS.Defaults
import KE.GoesMore
import HandS.SetFor
import HandS.SetBool
import PyProof.Rows.StrRev
import HandS.Head0
import HandS.Head1
import HandS.Head2
import HandS.HeadEnd
import HandS.HeadHook1
import HandS.HeadHook2
import HandS.HeadHook4
import PySem.Challenge.RW_ownrules_k67_names_that_lines_touch
set_option Elab.async false
set_option linter.all false
set_option maxRecDepth 100000
set_option maxHeartbeats 4000000
/-! A data layer over the hand layer: values as plain data, tuples by value; lists and dicts by their address in a small store. -/
namespace L2.DL
open PySem PySem.Spec PyProof.Rows

/-- plain data -/
inductive D where
  | non | bl (b : Bool) | int (i : Int) | str (x : Str) | ty (n : String) | ref (a : Addr) | tup (xs : List D)
/-- what stands at a known address -/
inductive Ob where
  | lst (xs : List D)
  | rol (xs : List D)
  | dic (kvs : List (Key × D))
  | rod (kvs : List (Key × D))
  | raw (o : HO)
abbrev Sto := Addr → Option Ob
noncomputable def put (st : Sto) (a : Addr) (o : Ob) : Sto := fun b => if b = a then some o else st b
theorem put_same {st : Sto} {a : Addr} {o : Ob} : put st a o a = some o := by unfold put; rw [if_pos rfl]
theorem put_ne {st : Sto} {a b : Addr} {o : Ob} (h : b ≠ a) : put st a o b = st b := by unfold put; rw [if_neg h]
theorem put_put {st : Sto} {a : Addr} {o u : Ob} : put (put st a o) a u = put st a u := by
  funext b; unfold put; split <;> rfl

mutual
inductive RelD (K : PySem.W.Frag) (H : Hp) : D → V → Prop
  | non : RelD K H .non .non
  | bl (b : Bool) : RelD K H (.bl b) (.bl b)
  | int (i : Int) : RelD K H (.int i) (.int i)
  | str (x : Str) : RelD K H (.str x) (.str x)
  | ty (n : String) : RelD K H (.ty n) (.ty n)
  | ref (a : Addr) : RelD K H (.ref a) (.ref a)
  | tup {a : Addr} {vs : List V} {ds : List D} : SqT K H a vs → RelDs K H ds vs → RelD K H (.tup ds) (.ref a)
inductive RelDs (K : PySem.W.Frag) (H : Hp) : List D → List V → Prop
  | nil : RelDs K H [] []
  | cons {d : D} {v : V} {ds : List D} {vs : List V} : RelD K H d v → RelDs K H ds vs → RelDs K H (d :: ds) (v :: vs)
end

/-- tuples stay -/
def ExtT (H H' : Hp) : Prop := ∀ a xs, Rd H a (.tup xs) → Rd H' a (.tup xs)
/-- tuples stay, and what is locked -/
structure Ext (H H' : Hp) : Prop where
  t : ExtT H H'
  f : ∀ a o u, H a = some (.frz o u) → H' a = some (.frz o u)
theorem ExtT.sqT {K : PySem.W.Frag} {H H' : Hp} (e : ExtT H H') {a : Addr} {xs : List V} (h : SqT K H a xs) : SqT K H' a xs := by
  rcases h with h | h
  · exact .inl (e _ _ h)
  · exact .inr h
theorem Ext.refl {H : Hp} : Ext H H := ⟨fun _ _ h => h, fun _ _ _ h => h⟩
theorem Ext.trans {H H1 H2 : Hp} (a : Ext H H1) (b : Ext H1 H2) : Ext H H2 := ⟨fun _ _ h => b.t _ _ (a.t _ _ h), fun _ _ _ h => b.f _ _ _ (a.f _ _ _ h)⟩
theorem Ext.sqT {K : PySem.W.Frag} {H H' : Hp} (e : Ext H H') {a : Addr} {xs : List V} (h : SqT K H a xs) : SqT K H' a xs := e.t.sqT h
theorem Ext.upd_new {H : Hp} {p : Addr} {o : HO} (h : H p = none) : Ext H (upd H p o) := ⟨fun a xs r => by
  have ne : a ≠ p := by
    rintro rfl
    rcases r with r | ⟨_, r⟩ <;> rw [h] at r <;> cases r
  rcases r with r | ⟨u, r⟩
  · exact .inl (by rw [upd_ne ne]; exact r)
  · exact .inr ⟨u, by rw [upd_ne ne]; exact r⟩, fun a o u e => by rw [upd_ne (ne_of_none e h)]; exact e⟩
theorem Ext.upd_mut {H : Hp} {p : Addr} {o : HO} (h : Mut (H p)) : Ext H (upd H p o) := ⟨fun a xs r => by
  have ne : a ≠ p := by
    rintro rfl
    rcases r with r | ⟨_, r⟩ <;> rw [r] at h <;> exact h
  rcases r with r | ⟨u, r⟩
  · exact .inl (by rw [upd_ne ne]; exact r)
  · exact .inr ⟨u, by rw [upd_ne ne]; exact r⟩, fun a o u e => by
    have ne : a ≠ p := by
      rintro rfl
      rw [e] at h; exact h
    rw [upd_ne ne]; exact e⟩
mutual
theorem RelD.monoT {K : PySem.W.Frag} {H H' : Hp} (e : ExtT H H') : ∀ {d : D} {v : V}, RelD K H d v → RelD K H' d v
  | _, _, .non => .non
  | _, _, .bl b => .bl b
  | _, _, .int i => .int i
  | _, _, .str x => .str x
  | _, _, .ty n => .ty n
  | _, _, .ref a => .ref a
  | _, _, .tup h r => .tup (e.sqT h) (RelDs.monoT e r)
theorem RelDs.monoT {K : PySem.W.Frag} {H H' : Hp} (e : ExtT H H') : ∀ {ds : List D} {vs : List V}, RelDs K H ds vs → RelDs K H' ds vs
  | _, _, .nil => .nil
  | _, _, .cons r t => .cons (RelD.monoT e r) (RelDs.monoT e t)
end
theorem RelD.mono {K : PySem.W.Frag} {H H' : Hp} (e : Ext H H') {d : D} {v : V} (r : RelD K H d v) : RelD K H' d v := r.monoT e.t
theorem RelDs.mono {K : PySem.W.Frag} {H H' : Hp} (e : Ext H H') {d : List D} {v : List V} (r : RelDs K H d v) : RelDs K H' d v := r.monoT e.t
section
variable {K : PySem.W.Frag} {H : Hp}
theorem RelDs.length : ∀ {ds : List D} {vs : List V}, RelDs K H ds vs → ds.length = vs.length
  | _, _, .nil => rfl
  | _, _, .cons _ t => by simp [RelDs.length t]
theorem RelDs.get : ∀ {ds : List D} {vs : List V} {i : Nat} {d : D}, RelDs K H ds vs → ds[i]? = some d → ∃ v, vs[i]? = some v ∧ RelD K H d v
  | _, _, _, _, .nil, e => by simp at e
  | _, _, 0, _, .cons r _, e => by simp at e; subst e; exact ⟨_, rfl, r⟩
  | _, _, i + 1, d, .cons _ t, e => by
    obtain ⟨u, h1, h2⟩ := RelDs.get (i := i) (d := d) t (by simpa using e)
    exact ⟨u, by simpa using h1, h2⟩
theorem RelDs.getV : ∀ {ds : List D} {vs : List V} {i : Nat} {v : V}, RelDs K H ds vs → vs[i]? = some v → ∃ d, ds[i]? = some d ∧ RelD K H d v
  | _, _, _, _, .nil, e => by simp at e
  | _, _, 0, _, .cons r _, e => by simp at e; subst e; exact ⟨_, rfl, r⟩
  | _, _, i + 1, d, .cons _ t, e => by
    obtain ⟨u, h1, h2⟩ := RelDs.getV (i := i) (v := d) t (by simpa using e)
    exact ⟨u, by simpa using h1, h2⟩
theorem RelDs.append : ∀ {ds es : List D} {vs ws : List V}, RelDs K H ds vs → RelDs K H es ws → RelDs K H (ds ++ es) (vs ++ ws)
  | _, _, _, _, .nil, s => s
  | _, _, _, _, .cons r t, s => .cons r (RelDs.append t s)
theorem RelDs.take : ∀ {ds : List D} {vs : List V} (n : Nat), RelDs K H ds vs → RelDs K H (ds.take n) (vs.take n)
  | _, _, 0, _ => by simpa using RelDs.nil
  | _, _, _ + 1, .nil => by simpa using RelDs.nil
  | _, _, n + 1, .cons r t => by simpa using RelDs.cons r (RelDs.take n t)
theorem RelDs.drop : ∀ {ds : List D} {vs : List V} (n : Nat), RelDs K H ds vs → RelDs K H (ds.drop n) (vs.drop n)
  | _, _, 0, r => r
  | _, _, _ + 1, .nil => by simpa using RelDs.nil
  | _, _, n + 1, .cons _ t => by simpa using RelDs.drop n t
theorem RelDs.set {d : D} {v : V} (r : RelD K H d v) : ∀ {ds : List D} {vs : List V} (i : Nat), RelDs K H ds vs → RelDs K H (ds.set i d) (vs.set i v)
  | _, _, _, .nil => .nil
  | _, _, 0, .cons _ t => .cons r t
  | _, _, i + 1, .cons q t => .cons q (RelDs.set r i t)
theorem RelDs.reverse {ds : List D} {vs : List V} (h : RelDs K H ds vs) : RelDs K H ds.reverse vs.reverse := by
  have go : ∀ {ds : List D} {vs : List V}, RelDs K H ds vs → ∀ {es : List D} {ws : List V}, RelDs K H es ws → RelDs K H (ds.reverse ++ es) (vs.reverse ++ ws) := by
    intro ds
    induction ds with
    | nil => intro vs h es ws h'; cases h; exact h'
    | cons d ds ih =>
      intro vs h es ws h'
      cases h with
      | cons r t =>
        simp only [List.reverse_cons, List.append_assoc]
        exact ih t (.cons r h')
  simpa using go h .nil
theorem RelDs.dropLast {ds : List D} {vs : List V} (h : RelDs K H ds vs) : RelDs K H ds.dropLast vs.dropLast := by
  rw [List.dropLast_eq_take, List.dropLast_eq_take, h.length]
  exact h.take _
theorem RelDs.ints : ∀ {ns : List Int} {vs : List V}, RelDs K H (ns.map D.int) vs → vs = ns.map V.int
  | [], _, .nil => rfl
  | n :: ns, _, .cons r t => by cases r; rw [RelDs.ints t]; rfl
theorem RelDs.of_ints : ∀ (ns : List Int), RelDs K H (ns.map D.int) (ns.map V.int)
  | [] => .nil
  | n :: ns => .cons (.int n) (RelDs.of_ints ns)
theorem RelDs.strs : ∀ {ns : List Str} {vs : List V}, RelDs K H (ns.map D.str) vs → vs = ns.map V.str
  | [], _, .nil => rfl
  | n :: ns, _, .cons r t => by cases r; rw [RelDs.strs t]; rfl
theorem RelDs.of_strs : ∀ (ns : List Str), RelDs K H (ns.map D.str) (ns.map V.str)
  | [] => .nil
  | n :: ns => .cons (.str n) (RelDs.of_strs ns)
theorem RelDs.bls : ∀ {ns : List Bool} {vs : List V}, RelDs K H (ns.map D.bl) vs → vs = ns.map V.bl
  | [], _, .nil => rfl
  | n :: ns, _, .cons r t => by cases r; rw [RelDs.bls t]; rfl
end

/-- pairs of a dict -/
inductive RelK {κ : Type} (K : PySem.W.Frag) (H : Hp) : List (κ × D) → List (κ × V) → Prop
  | nil : RelK K H [] []
  | cons {k : κ} {d : D} {v : V} {ds : List (κ × D)} {vs : List (κ × V)} : RelD K H d v → RelK K H ds vs → RelK K H ((k, d) :: ds) ((k, v) :: vs)
theorem RelK.monoT {κ : Type} {K : PySem.W.Frag} {H H' : Hp} (e : ExtT H H') : ∀ {ds : List (κ × D)} {vs : List (κ × V)}, RelK K H ds vs → RelK K H' ds vs
  | _, _, .nil => .nil
  | _, _, .cons r t => .cons (r.monoT e) (RelK.monoT e t)
theorem RelK.mono {κ : Type} {K : PySem.W.Frag} {H H' : Hp} (e : Ext H H') {ds : List (κ × D)} {vs : List (κ × V)} (r : RelK K H ds vs) : RelK K H' ds vs := r.monoT e.t
theorem RelK.keys {κ : Type} {K : PySem.W.Frag} {H : Hp} : ∀ {ds : List (κ × D)} {vs : List (κ × V)}, RelK K H ds vs → vs.map (·.1) = ds.map (·.1)
  | _, _, .nil => rfl
  | _, _, .cons r t => by simp [RelK.keys t]
theorem RelK.length {κ : Type} {K : PySem.W.Frag} {H : Hp} {ds : List (κ × D)} {vs : List (κ × V)} (h : RelK K H ds vs) : vs.length = ds.length := by
  have := congrArg List.length h.keys
  simpa using this

def RelOb (K : PySem.W.Frag) (H : Hp) (a : Addr) : Ob → Prop
  | .lst ds => ∃ vs, H a = some (.lst vs) ∧ RelDs K H ds vs
  | .rol ds => ∃ vs, SqL K H a vs ∧ RelDs K H ds vs
  | .dic kvs => ∃ ws, H a = some (.dK ws) ∧ RelK K H kvs ws
  | .rod kvs => ∃ ws u, H a = some (.frz u (.dK ws)) ∧ RelK K H kvs ws
  | .raw o => H a = some o
def RelSto (K : PySem.W.Frag) (H : Hp) (st : Sto) : Prop := ∀ a o, st a = some o → RelOb K H a o
/-- what the address holds stays, tuples stay -/
theorem RelOb.keep {K : PySem.W.Frag} {H H' : Hp} {a : Addr} {o : Ob} (h : RelOb K H a o) (e : ExtT H H') (s : ∀ u, H a = some u → H' a = some u) : RelOb K H' a o := by
  cases o with
  | lst ds => obtain ⟨vs, h1, h2⟩ := h; exact ⟨vs, s _ h1, h2.monoT e⟩
  | rol ds =>
    obtain ⟨vs, h1, h2⟩ := h
    refine ⟨vs, ?_, h2.monoT e⟩
    rcases h1 with (h1 | ⟨u, h1⟩) | h1
    · exact .inl (.inl (s _ h1))
    · exact .inl (.inr ⟨u, s _ h1⟩)
    · exact .inr h1
  | dic kvs => obtain ⟨ws, h1, h2⟩ := h; exact ⟨ws, s _ h1, h2.monoT e⟩
  | rod kvs =>
    obtain ⟨ws, u, h1, h2⟩ := h
    exact ⟨ws, u, s _ h1, h2.monoT e⟩
  | raw u => exact s _ h
/-- an object is laid anew or changed -/
theorem RelSto.put {K : PySem.W.Frag} {H : Hp} {st : Sto} {a : Addr} {o : Ob} {u : HO} (h : RelSto K H st) (e : Ext H (upd H a u)) (n : RelOb K (upd H a u) a o) : RelSto K (upd H a u) (put st a o) := fun b ob hb => by
  by_cases q : b = a
  · subst q; rw [put_same] at hb; cases hb; exact n
  · rw [put_ne q] at hb
    exact (h b ob hb).keep e.t fun v hv => by rw [upd_ne q]; exact hv
/-- a new object that is not named -/
theorem RelSto.new {K : PySem.W.Frag} {H : Hp} {st : Sto} {a : Addr} {u : HO} (h : RelSto K H st) (hn : H a = none) : RelSto K (upd H a u) st := fun b ob hb =>
  (h b ob hb).keep (Ext.upd_new hn).t fun v hv => by
    rw [upd_ne (ne_of_none hv hn)]; exact hv
/-- forgetting -/
def Sub (st st' : Sto) : Prop := ∀ a o, st a = some o → st' a = some o
theorem Sub.refl {st : Sto} : Sub st st := fun _ _ h => h
theorem Sub.trans {a b c : Sto} (h : Sub a b) (k : Sub b c) : Sub a c := fun _ _ e => k _ _ (h _ _ e)
theorem Sub.put {st st' : Sto} {a : Addr} {o : Ob} (h : Sub st st') (n : st a = none) : Sub st (put st' a o) := fun b u e => by
  rw [put_ne (by rintro rfl; rw [n] at e; cases e)]; exact h _ _ e
theorem Sub.new {st : Sto} {a : Addr} {o : Ob} (n : st a = none) : Sub st (L2.DL.put st a o) := Sub.refl.put n
theorem RelSto.sub {K : PySem.W.Frag} {H : Hp} {st st' : Sto} (h : RelSto K H st') (s : Sub st st') : RelSto K H st := fun a o e => h a o (s a o e)
/-- an address is not named, but by what is read alone -/
def Nf (st : Sto) (a : Addr) : Prop := st a = none ∨ ∃ xs, st a = some (.rol xs)
theorem RelSto.fresh {K : PySem.W.Frag} {H : Hp} {st : Sto} {a : Addr} (h : RelSto K H st) (hn : H a = none) : Nf st a := by
  cases e : st a with
  | none => exact .inl e
  | some o =>
    have q := h a o e
    cases o with
    | lst ds => obtain ⟨vs, h1, _⟩ := q; rw [hn] at h1; cases h1
    | rol ds => exact .inr ⟨ds, e⟩
    | dic kvs => obtain ⟨ws, h1, _⟩ := q; rw [hn] at h1; cases h1
    | rod kvs =>
      obtain ⟨ws, u, h1, _⟩ := q
      rw [hn] at h1; cases h1
    | raw u => have h1 : H a = some u := q; rw [hn] at h1; cases h1
/-- a list that is read -/
def rdL : Option Ob → Option (List D)
  | some (.lst xs) => some xs
  | some (.rol xs) => some xs
  | _ => none
theorem RelSto.rdL {K : PySem.W.Frag} {H : Hp} {st : Sto} {a : Addr} {ds : List D} (h : RelSto K H st) (e : rdL (st a) = some ds) : ∃ vs, SqL K H a vs ∧ RelDs K H ds vs := by
  cases q : st a with
  | none => rw [q] at e; cases e
  | some o =>
    rw [q] at e
    have r := h a o q
    cases o with
    | lst xs => cases e; obtain ⟨vs, h1, h2⟩ := r; exact ⟨vs, .of h1, h2⟩
    | rol xs => cases e; obtain ⟨vs, h1, h2⟩ := r; exact ⟨vs, h1, h2⟩
    | dic kvs => cases e
    | rod kvs => cases e
    | raw u => cases e
/-- a dict that is read -/
def rdD : Option Ob → Option (List (Key × D))
  | some (.dic kvs) => some kvs
  | some (.rod kvs) => some kvs
  | _ => none
theorem RelSto.rdD {K : PySem.W.Frag} {H : Hp} {st : Sto} {a : Addr} {ds : List (Key × D)} (h : RelSto K H st) (e : rdD (st a) = some ds) : ∃ vs, Rd H a (.dK vs) ∧ RelK K H ds vs := by
  cases q : st a with
  | none => rw [q] at e; cases e
  | some o =>
    rw [q] at e
    have r := h a o q
    cases o with
    | lst xs => cases e
    | rol xs => cases e
    | dic kvs => cases e; obtain ⟨vs, h1, h2⟩ := r; exact ⟨vs, .of h1, h2⟩
    | rod kvs => cases e; obtain ⟨vs, u, h1, h2⟩ := r; exact ⟨vs, .inr ⟨u, h1⟩, h2⟩
    | raw u => cases e
end L2.DL

namespace L2.DL
open PySem PySem.Spec PyProof.Rows

abbrev Env := List (Option D)
abbrev DK := D → Sto → Prop
abbrev ME := Env → Sto → DK → Prop
abbrev MT := Env → Sto → (Bool → Sto → Prop) → Prop
abbrev MA := Env → Sto → (List D → Sto → Prop) → Prop
structure DEnds where
  nx : Env → Sto → Prop
  rt : DK
  bk : Env → Sto → Prop := fun _ _ => False
  ct : Env → Sto → Prop := fun _ _ => False
abbrev MS := DEnds → Env → Sto → Prop

def RelX (K : PySem.W.Frag) (H : Hp) : Option D → Option V → Prop
  | some d, some v => RelD K H d v
  | some _, none => False
  | none, _ => True
/-- slots: what is told of them -/
inductive RelE (K : PySem.W.Frag) (H : Hp) : Env → St → Prop
  | nil : RelE K H [] []
  | cons {d : Option D} {v : Option V} {env : Env} {σ : St} : RelX K H d v → RelE K H env σ → RelE K H (d :: env) (v :: σ)
section
variable {K : PySem.W.Frag} {H H' : Hp}
theorem RelX.mono (e : Ext H H') : ∀ {d : Option D} {v : Option V}, RelX K H d v → RelX K H' d v
  | some _, some _, h => RelD.mono e h
  | some _, none, h => h
  | none, _, _ => trivial
theorem RelE.mono (e : Ext H H') : ∀ {env : Env} {σ : St}, RelE K H env σ → RelE K H' env σ
  | _, _, .nil => .nil
  | _, _, .cons r t => .cons (r.mono e) (RelE.mono e t)
theorem RelE.get : ∀ {env : Env} {σ : St} {i : Nat} {d : D}, RelE K H env σ → env[i]? = some (some d) → ∃ v, σ[i]? = some (some v) ∧ RelD K H d v
  | _, _, _, _, .nil, e => by simp at e
  | _, _, 0, d, .cons (v := v) r _, e => by
    simp at e; subst e
    cases v with
    | none => exact r.elim
    | some v => exact ⟨v, rfl, r⟩
  | _, _, i + 1, d, .cons _ t, e => by
    obtain ⟨u, h1, h2⟩ := RelE.get (i := i) (d := d) t (by simpa using e)
    exact ⟨u, by simpa using h1, h2⟩
theorem RelE.set {d : D} {v : V} (r : RelD K H d v) : ∀ {env : Env} {σ : St} (i : Nat), RelE K H env σ → RelE K H (env.set i (some d)) (σ.set i (some v))
  | _, _, _, .nil => .nil
  | _, _, 0, .cons _ t => .cons r t
  | _, _, i + 1, .cons q t => .cons q (RelE.set r i t)
theorem RelE.forget : ∀ {env : Env} {σ : St} (i : Nat), RelE K H env σ → RelE K H (env.set i none) (σ.set i none)
  | _, _, _, .nil => .nil
  | _, _, 0, .cons _ t => .cons trivial t
  | _, _, i + 1, .cons q t => .cons q (RelE.forget i t)
theorem RelE.start (N : List Str) {ds : List D} {vs : List V} (h : RelDs K H ds vs) : RelE K H (ds.map some ++ List.replicate (N.length - ds.length) none) (start N vs) := by
  unfold L2.start
  rw [h.length]
  generalize N.length - vs.length = n
  induction ds generalizing vs with
  | nil =>
    cases h
    induction n with
    | zero => exact .nil
    | succ n ih => exact .cons trivial ih
  | cons d ds ih =>
    cases h with
    | cons r t => exact .cons r (ih t)
end
def wipeE (env : Env) : List Nat → Env
  | [] => env
  | v :: vs => (wipeE env vs).set v none
theorem RelE.wipe {K : PySem.W.Frag} {H : Hp} {env : Env} {σ : St} (h : RelE K H env σ) : ∀ vs : List Nat, RelE K H (wipeE env vs) (wipe σ vs)
  | [] => h
  | v :: vs => (RelE.wipe h vs).forget v

/-! ### from data readings to the hand layer's -/
def lift (K : PySem.W.Frag) (m : ME) : TE := fun σ H Q' => ∃ env st Q, RelE K H env σ ∧ RelSto K H st ∧ m env st Q ∧
  ∀ d st' v H', Q d st' → Ext H H' → RelD K H' d v → RelSto K H' st' → Q' v H'
def liftT (K : PySem.W.Frag) (m : MT) : TT := fun σ H Q' => ∃ env st Q, RelE K H env σ ∧ RelSto K H st ∧ m env st Q ∧
  ∀ b st' H', Q b st' → Ext H H' → RelSto K H' st' → Q' b H'
def liftA (K : PySem.W.Frag) (m : MA) : TA := fun σ H Q' => ∃ env st Q, RelE K H env σ ∧ RelSto K H st ∧ m env st Q ∧
  ∀ ds st' vs H', Q ds st' → Ext H H' → RelDs K H' ds vs → RelSto K H' st' → Q' vs H'
def liftS (K : PySem.W.Frag) (m : MS) : TS := fun D' σ H => ∃ env st D, RelE K H env σ ∧ RelSto K H st ∧ m D env st ∧
  (∀ env' st' σ' H', D.nx env' st' → Ext H H' → RelE K H' env' σ' → RelSto K H' st' → D'.nx σ' H') ∧
  (∀ d st' v H', D.rt d st' → Ext H H' → RelD K H' d v → RelSto K H' st' → D'.rt v H') ∧
  (∀ env' st' σ' H', D.bk env' st' → Ext H H' → RelE K H' env' σ' → RelSto K H' st' → D'.bk σ' H') ∧
  (∀ env' st' σ' H', D.ct env' st' → Ext H H' → RelE K H' env' σ' → RelSto K H' st' → D'.ct σ' H')
/-- two-place operations by values -/
abbrev M2 := D → D → Sto → DK → Prop
def lift2 (K : PySem.W.Frag) (r : M2) : R2 := fun x y H Q' => ∃ dx dy st Q, RelD K H dx x ∧ RelD K H dy y ∧ RelSto K H st ∧ r dx dy st Q ∧
  ∀ d st' v H', Q d st' → Ext H H' → RelD K H' d v → RelSto K H' st' → Q' v H'
/-- calls by values -/
abbrev MC := List D → Sto → DK → Prop
def liftC (K : PySem.W.Frag) (r : MC) : List V → Hp → VK → Prop := fun xs H Q' => ∃ ds st Q, RelDs K H ds xs ∧ RelSto K H st ∧ r ds st Q ∧
  ∀ d st' v H', Q d st' → Ext H H' → RelD K H' d v → RelSto K H' st' → Q' v H'

structure DE (X : Cx) (e : Expr) (m : ME) : Prop where
  pe : PE X e (lift X.K m)
structure DT (X : Cx) (e : Expr) (m : MT) : Prop where
  pt : PT X e (liftT X.K m)
structure DW (X : Cx) (e : Expr) (m : MT) : Prop where
  pw : PW X e (liftT X.K m)
structure DA (X : Cx) (es : List Expr) (m : MA) : Prop where
  pa : PA X es (liftA X.K m)
structure DS (X : Cx) (st : Stmt) (m : MS) : Prop where
  ps : PS X st (liftS X.K m)
structure DSs (X : Cx) (st : List Stmt) (m : MS) : Prop where
  pss : PSs X st (liftS X.K m)
structure DO2 (X : Cx) (f : Value → Value → Sem Value) (r : M2) : Prop where
  op : OpR X f (lift2 X.K r)
structure DC (X : Cx) (f : Value) (r : MC) : Prop where
  call : CallR X f (liftC X.K r)

theorem pe_mono {X : Cx} {e : Expr} {t t' : TE} (h : PE X e t) (k : ∀ σ H Q, t' σ H Q → t σ H Q) : PE X e t' := ⟨fun pins s σ H Q I hw => h.run pins s σ H Q I (k _ _ _ hw)⟩
theorem pt_mono {X : Cx} {e : Expr} {t t' : TT} (h : PT X e t) (k : ∀ σ H Q, t' σ H Q → t σ H Q) : PT X e t' := ⟨fun pins s σ H Q I hw => h.run pins s σ H Q I (k _ _ _ hw)⟩
theorem pw_mono {X : Cx} {e : Expr} {t t' : TT} (h : PW X e t) (k : ∀ σ H Q, t' σ H Q → t σ H Q) : PW X e t' := ⟨fun wh pins s σ H Q I hw => h.run wh pins s σ H Q I (k _ _ _ hw)⟩
theorem pa_mono {X : Cx} {e : List Expr} {t t' : TA} (h : PA X e t) (k : ∀ σ H Q, t' σ H Q → t σ H Q) : PA X e t' := ⟨fun pos pins s σ H Q I hw => h.run pos pins s σ H Q I (k _ _ _ hw)⟩
theorem ps_mono {X : Cx} {e : Stmt} {t t' : TS} (h : PS X e t) (k : ∀ D σ H, t' D σ H → t D σ H) : PS X e t' := ⟨fun pins s σ H D I hw => h.run pins s σ H D I (k _ _ _ hw)⟩
theorem pss_mono {X : Cx} {e : List Stmt} {t t' : TS} (h : PSs X e t) (k : ∀ D σ H, t' D σ H → t D σ H) : PSs X e t' := ⟨fun pins s σ H D I hw => h.run pins s σ H D I (k _ _ _ hw)⟩

/-- into a lift -/
theorem lift_in {K : PySem.W.Frag} {m : ME} {env : Env} {st : Sto} {σ : St} {H : Hp} {Q : DK} {Q' : VK} (re : RelE K H env σ) (rs : RelSto K H st) (h : m env st Q)
    (k : ∀ d st' v H', Q d st' → Ext H H' → RelD K H' d v → RelE K H' env σ → RelSto K H' st' → Q' v H') : lift K m σ H Q' :=
  ⟨env, st, Q, re, rs, h, fun d st' v H' q e r s => k d st' v H' q e r (re.mono e) s⟩
theorem liftT_in {K : PySem.W.Frag} {m : MT} {env : Env} {st : Sto} {σ : St} {H : Hp} {Q : Bool → Sto → Prop} {Q' : Bool → Hp → Prop} (re : RelE K H env σ) (rs : RelSto K H st) (h : m env st Q)
    (k : ∀ b st' H', Q b st' → Ext H H' → RelE K H' env σ → RelSto K H' st' → Q' b H') : liftT K m σ H Q' :=
  ⟨env, st, Q, re, rs, h, fun b st' H' q e s => k b st' H' q e (re.mono e) s⟩
theorem liftA_in {K : PySem.W.Frag} {m : MA} {env : Env} {st : Sto} {σ : St} {H : Hp} {Q : List D → Sto → Prop} {Q' : List V → Hp → Prop} (re : RelE K H env σ) (rs : RelSto K H st) (h : m env st Q)
    (k : ∀ ds st' vs H', Q ds st' → Ext H H' → RelDs K H' ds vs → RelE K H' env σ → RelSto K H' st' → Q' vs H') : liftA K m σ H Q' :=
  ⟨env, st, Q, re, rs, h, fun d st' v H' q e r s => k d st' v H' q e r (re.mono e) s⟩

/-! ### names, constants -/
def mVar (i : Nat) : ME := fun env st Q => ∃ d, env[i]? = some (some d) ∧ Q d st
def mC (d : D) : ME := fun _ st Q => Q d st
section
variable {X : Cx} {a b e : Expr} {es : List Expr} {ma mb m : ME} {pos : Pos}
theorem de_var {i : Nat} {x : Str} (hN : X.N[i]? = some x) (hv : Vis X.env.scope x) (hd : (x == ("__debug__" : Str)) = false := by decide) (hcd : (x == ("__classdict__" : Str)) = false := by decide) : DE X (.Name x pos) (mVar i) :=
  ⟨pe_mono (pe_var hN hv hd hcd) fun σ H Q ⟨env, st, Q0, re, rs, ⟨d, e, h⟩, k⟩ => by
    obtain ⟨v, e1, r⟩ := re.get e
    exact ⟨v, e1, k d st v H h .refl r rs⟩⟩
theorem de_int {i : Int} {j pos} : DE X (.Constant (.int i) j pos) (mC (.int i)) := ⟨pe_mono pe_int fun σ H Q ⟨env, st, Q0, re, rs, h, k⟩ => k _ st _ H h .refl (.int i) rs⟩
theorem de_bl {b : Bool} {j pos} : DE X (.Constant (.bool b) j pos) (mC (.bl b)) := ⟨pe_mono pe_bl fun σ H Q ⟨env, st, Q0, re, rs, h, k⟩ => k _ st _ H h .refl (.bl b) rs⟩
theorem de_non {j pos} : DE X (.Constant .none j pos) (mC .non) := ⟨pe_mono pe_non fun σ H Q ⟨env, st, Q0, re, rs, h, k⟩ => k _ st _ H h .refl .non rs⟩
theorem de_str {x : Str} {j pos} : DE X (.Constant (.str x) j pos) (mC (.str x)) := ⟨pe_mono pe_str fun σ H Q ⟨env, st, Q0, re, rs, h, k⟩ => k _ st _ H h .refl (.str x) rs⟩
/-- a constant of the module: an int, a text -/
theorem de_glob {x : Str} {v : V} {d : D} {u : Value} (hg : Gl X x) (hm : X.mg x = some u) (r : RelV v u) (rd : ∀ H, RelD X.K H d v) (hd : (x == ("__debug__" : Str)) = false := by decide) : DE X (.Name x pos) (mC d) :=
  ⟨pe_mono (pe_glob hg hm r hd) fun σ H Q ⟨env, st, Q0, re, rs, h, k⟩ => k _ st _ H h .refl (rd H) rs⟩
theorem de_bltn {x : Str} {n : String} (hg : Gl X x) (hm : X.mg x = none) (hv : bootBuiltins x = some (.type n)) (hn : x ≠ "__name__" := by decide) (hd : (x == ("__debug__" : Str)) = false := by decide) : DE X (.Name x pos) (mC (.ty n)) :=
  ⟨pe_mono (pe_bltn (v := .ty n) hg hm hv rfl hn hd) fun σ H Q ⟨env, st, Q0, re, rs, h, k⟩ => k _ st _ H h .refl (.ty n) rs⟩

/-! ### operators -/
def mBin (r : M2) (ma mb : ME) : ME := fun env st Q => ma env st fun x st1 => mb env st1 fun y st2 => r x y st2 Q
theorem lift_bin {K : PySem.W.Frag} {r : M2} {σ : St} {H : Hp} {Q : VK} (h : lift K (mBin r ma mb) σ H Q) : tOp (lift2 K r) (lift K ma) (lift K mb) σ H Q := by
  obtain ⟨env, st, Q0, re, rs, h, k⟩ := h
  refine lift_in re rs h fun x st1 x' H1 q1 e1 rx re1 rs1 => ?_
  refine lift_in re1 rs1 q1 fun y st2 y' H2 q2 e2 ry re2 rs2 => ?_
  exact ⟨x, y, st2, Q0, rx.mono e2, ry, rs2, q2, fun d st' v H' q e r s => k d st' v H' q (e1.trans (e2.trans e)) r s⟩
theorem de_bin {op : Operator} {r : M2} (ho : DO2 X (binaryOp op) r) (ha : DE X a ma) (hb : DE X b mb) : DE X (.BinOp a op b pos) (mBin r ma mb) :=
  ⟨pe_mono (pe_op ho.op ha.pe hb.pe) fun _ _ _ => lift_bin⟩
theorem de_cmp {op : CmpOp} {r : M2} (ho : DO2 X (compareOp op) r) (ha : DE X a ma) (hb : DE X b mb) (hm : behindInMarks op b = false) : DE X (.Compare a [op] [b] pos) (mBin r ma mb) :=
  ⟨pe_mono (pe_cmpR ho.op ha.pe hb.pe hm) fun _ _ _ => lift_bin⟩
/-- a value that is a bool, as a test -/
def mTest (m : ME) : MT := fun env st Q => m env st fun x st1 => ∃ k, x = .bl k ∧ Q k st1
theorem RelD.bl_of {K : PySem.W.Frag} {H : Hp} {k : Bool} {v : V} (r : RelD K H (.bl k) v) : v = .bl k := by cases r; rfl
theorem RelD.int_of {K : PySem.W.Frag} {H : Hp} {k : Int} {v : V} (r : RelD K H (.int k) v) : v = .int k := by cases r; rfl
theorem RelD.str_of {K : PySem.W.Frag} {H : Hp} {k : Str} {v : V} (r : RelD K H (.str k) v) : v = .str k := by cases r; rfl
theorem RelD.ref_of {K : PySem.W.Frag} {H : Hp} {k : Addr} {v : V} (r : RelD K H (.ref k) v) : v = .ref k := by cases r; rfl
theorem RelD.non_of {K : PySem.W.Frag} {H : Hp} {v : V} (r : RelD K H .non v) : v = .non := by cases r; rfl
theorem RelD.ty_of {K : PySem.W.Frag} {H : Hp} {n : String} {v : V} (r : RelD K H (.ty n) v) : v = .ty n := by cases r; rfl
theorem RelD.tup_of {K : PySem.W.Frag} {H : Hp} {ds : List D} {v : V} (r : RelD K H (.tup ds) v) : ∃ a vs, v = .ref a ∧ SqT K H a vs ∧ RelDs K H ds vs := by
  cases r with
  | tup h t => exact ⟨_, _, rfl, h, t⟩
theorem dt_cmp {op : CmpOp} {r : M2} (ho : DO2 X (compareOp op) r) (ha : DE X a ma) (hb : DE X b mb) (hm : behindInMarks op b = false) : DT X (.Compare a [op] [b] pos) (mTest (mBin r ma mb)) :=
  ⟨pt_mono (pt_cmpR ho.op ha.pe hb.pe hm) fun σ H Q ⟨env, st, Q0, re, rs, h, k⟩ => by
    refine lift_bin ⟨env, st, _, re, rs, h, fun d st' v H' ⟨c, e, q⟩ ex r s => ?_⟩
    subst e
    exact ⟨c, r.bl_of, k c st' H' q ex s⟩⟩
theorem dt_val (ha : DE X a ma) (he : ∀ whole, isTrue a X.env whole = (do let v ← whole; standAt a.pos; holding [v] (truthy v)) := by intro _; rfl) : DT X a (mTest ma) :=
  ⟨pt_mono (pt_val ha.pe he) fun σ H Q ⟨env, st, Q0, re, rs, h, k⟩ => ⟨env, st, _, re, rs, h, fun d st' v H' ⟨c, e, q⟩ ex r s => by
    subst e
    exact ⟨c, r.bl_of, k c st' H' q ex s⟩⟩⟩

/-! ### and, or, not -/
variable {tA tB : MT} {rest : List Expr}
def mAnd (t u : MT) : MT := fun env st Q => t env st fun c st1 => if c = true then u env st1 Q else Q false st1
def mOr (t u : MT) : MT := fun env st Q => t env st fun c st1 => if c = true then Q true st1 else u env st1 Q
def mNot (t : MT) : MT := fun env st Q => t env st fun c st1 => Q (!c) st1
theorem dw_and1 (ha : DT X a tA) : DW X (.BoolOp .And [a] pos) tA := ⟨pw_and1 ha.pt⟩
theorem dw_or1 (ha : DT X a tA) : DW X (.BoolOp .Or [a] pos) tA := ⟨pw_or1 ha.pt⟩
theorem dw_and (ha : DT X a tA) (hb : DW X (.BoolOp .And (b :: rest) pos) tB) : DW X (.BoolOp .And (a :: b :: rest) pos) (mAnd tA tB) :=
  ⟨pw_mono (pw_and ha.pt hb.pw) fun σ H Q ⟨env, st, Q0, re, rs, h, k⟩ => by
    refine liftT_in re rs h fun c st1 H1 q e re1 rs1 => ?_
    cases c with
    | true => exact ⟨env, st1, _, re1, rs1, q, fun b st' H' q2 e2 s2 => k b st' H' q2 (e.trans e2) s2⟩
    | false => exact k false st1 H1 q e rs1⟩
theorem dw_or (ha : DT X a tA) (hb : DW X (.BoolOp .Or (b :: rest) pos) tB) : DW X (.BoolOp .Or (a :: b :: rest) pos) (mOr tA tB) :=
  ⟨pw_mono (pw_or ha.pt hb.pw) fun σ H Q ⟨env, st, Q0, re, rs, h, k⟩ => by
    refine liftT_in re rs h fun c st1 H1 q e re1 rs1 => ?_
    cases c with
    | false => exact ⟨env, st1, _, re1, rs1, q, fun b st' H' q2 e2 s2 => k b st' H' q2 (e.trans e2) s2⟩
    | true => exact k true st1 H1 q e rs1⟩
theorem DW.dt (h : DW X a tA) : DT X a tA := ⟨h.pw.pt⟩
theorem dt_not (ha : DT X a tA) : DT X (.UnaryOp .Not a pos) (mNot tA) :=
  ⟨pt_mono (pt_not ha.pt) fun σ H Q ⟨env, st, Q0, re, rs, h, k⟩ => liftT_in re rs h fun c st1 H1 q e re1 rs1 => k _ st1 H1 q e rs1⟩
/-- as values: all but the last are bools -/
def mAndV (ma mb : ME) : ME := fun env st Q => ma env st fun x st1 => ∃ c, x = .bl c ∧ if c = true then mb env st1 Q else Q (.bl false) st1
def mOrV (ma mb : ME) : ME := fun env st Q => ma env st fun x st1 => ∃ c, x = .bl c ∧ if c = true then Q (.bl true) st1 else mb env st1 Q
def mNotV (ma : ME) : ME := fun env st Q => ma env st fun x st1 => ∃ c, x = .bl c ∧ Q (.bl (!c)) st1
theorem de_one {op} (h : DE X a m) : DE X (.BoolOp op [a] pos) m := ⟨pe_one h.pe⟩
theorem de_and (ha : DE X a ma) (hb : DE X (.BoolOp .And (b :: rest) pos) mb) : DE X (.BoolOp .And (a :: b :: rest) pos) (mAndV ma mb) :=
  ⟨pe_mono (pe_and ha.pe hb.pe) fun σ H Q ⟨env, st, Q0, re, rs, h, k⟩ => by
    refine lift_in re rs h fun x st1 x' H1 q e rx re1 rs1 => ?_
    obtain ⟨c, rfl, q⟩ := q
    refine ⟨c, rx.bl_of, ?_⟩
    cases c with
    | true => exact ⟨env, st1, _, re1, rs1, q, fun d st' v H' q2 e2 r2 s2 => k d st' v H' q2 (e.trans e2) r2 s2⟩
    | false => exact k _ st1 _ H1 q e (.bl false) rs1⟩
theorem de_or (ha : DE X a ma) (hb : DE X (.BoolOp .Or (b :: rest) pos) mb) : DE X (.BoolOp .Or (a :: b :: rest) pos) (mOrV ma mb) :=
  ⟨pe_mono (pe_or ha.pe hb.pe) fun σ H Q ⟨env, st, Q0, re, rs, h, k⟩ => by
    refine lift_in re rs h fun x st1 x' H1 q e rx re1 rs1 => ?_
    obtain ⟨c, rfl, q⟩ := q
    refine ⟨c, rx.bl_of, ?_⟩
    cases c with
    | false => exact ⟨env, st1, _, re1, rs1, q, fun d st' v H' q2 e2 r2 s2 => k d st' v H' q2 (e.trans e2) r2 s2⟩
    | true => exact k _ st1 _ H1 q e (.bl true) rs1⟩
theorem de_not (ha : DE X a ma) : DE X (.UnaryOp .Not a pos) (mNotV ma) :=
  ⟨pe_mono (pe_not ha.pe) fun σ H Q ⟨env, st, Q0, re, rs, h, k⟩ => by
    refine lift_in re rs h fun x st1 x' H1 q e rx re1 rs1 => ?_
    obtain ⟨c, rfl, q⟩ := q
    exact ⟨c, rx.bl_of, k _ st1 _ H1 q e (.bl _) rs1⟩⟩
def mIf (t : MT) (ma mb : ME) : ME := fun env st Q => t env st fun c st1 => if c = true then ma env st1 Q else mb env st1 Q
theorem de_ifExp {c : Expr} (hc : DT X c tA) (ha : DE X a ma) (hb : DE X b mb) : DE X (.IfExp c a b pos) (mIf tA ma mb) :=
  ⟨pe_mono (pe_ifExp hc.pt ha.pe hb.pe) fun σ H Q ⟨env, st, Q0, re, rs, h, k⟩ => by
    refine liftT_in re rs h fun c st1 H1 q e re1 rs1 => ?_
    cases c with
    | true => exact ⟨env, st1, _, re1, rs1, q, fun d st' v H' q2 e2 r2 s2 => k d st' v H' q2 (e.trans e2) r2 s2⟩
    | false => exact ⟨env, st1, _, re1, rs1, q, fun d st' v H' q2 e2 r2 s2 => k d st' v H' q2 (e.trans e2) r2 s2⟩⟩

/-! ### arguments, displays -/
def mNil : MA := fun _ st Q => Q [] st
def mCons (ma : ME) (mr : MA) : MA := fun env st Q => ma env st fun x st1 => mr env st1 fun xs st2 => Q (x :: xs) st2
variable {mr : MA}
theorem da_nil : DA X [] mNil := ⟨pa_mono pa_nil fun σ H Q ⟨env, st, Q0, re, rs, h, k⟩ => k [] st [] H h .refl .nil rs⟩
theorem da_cons (ha : DE X e ma) (hr : DA X es mr) (hs : starEach (e :: es) X.env = (false, eval e X.env) :: starEach es X.env := by rfl) : DA X (e :: es) (mCons ma mr) :=
  ⟨pa_mono (pa_cons ha.pe hr.pa hs) fun σ H Q ⟨env, st, Q0, re, rs, h, k⟩ => by
    refine lift_in re rs h fun x st1 x' H1 q1 e1 rx re1 rs1 => ?_
    refine liftA_in re1 rs1 q1 fun xs st2 xs' H2 q2 e2 rxs re2 rs2 => ?_
    exact k _ st2 _ H2 q2 (e1.trans e2) (.cons (rx.mono e2) rxs) rs2⟩
def mTup (m : MA) : ME := fun env st Q => m env st fun xs st1 => xs.length ≤ sizeLine ∧ Q (.tup xs) st1
def mLst (m : MA) : ME := fun env st Q => m env st fun xs st1 => xs.length ≤ sizeLine ∧ ∀ p, Nf st1 p → Q (.ref p) (put st1 p (.lst xs))
theorem de_tup {x1} (h : DA X es mr) : DE X (.Tuple es x1 pos) (mTup mr) :=
  ⟨pe_mono (pe_tup h.pa) fun σ H Q ⟨env, st, Q0, re, rs, h, k⟩ => by
    refine liftA_in re rs h fun xs st1 xs' H1 q1 e1 rx re1 rs1 => ?_
    obtain ⟨hl, q1⟩ := q1
    refine ⟨by rw [← rx.length]; exact hl, fun p hp => ?_⟩
    have ex : Ext H1 (upd H1 p (.tup xs')) := .upd_new hp
    exact k _ st1 _ _ q1 (e1.trans ex) (.tup (.of upd_same) (rx.mono ex)) (rs1.new hp)⟩
theorem de_lst (h : DA X es mr) : DE X (.List es pos) (mLst mr) :=
  ⟨pe_mono (pe_lst h.pa) fun σ H Q ⟨env, st, Q0, re, rs, h, k⟩ => by
    refine liftA_in re rs h fun xs st1 xs' H1 q1 e1 rx re1 rs1 => ?_
    obtain ⟨hl, q1⟩ := q1
    refine ⟨by rw [← rx.length]; exact hl, fun p hp => ?_⟩
    have ex : Ext H1 (upd H1 p (.lst xs')) := .upd_new hp
    exact k _ _ _ _ (q1 p (rs1.fresh hp)) (e1.trans ex) (.ref p) (rs1.put ex ⟨xs', upd_same, rx.mono ex⟩)⟩

/-! ### built-in functions and types called -/
def mCall (r : MC) (m : MA) : ME := fun env st Q => m env st fun xs st1 => r xs st1 Q
theorem lift_call {K : PySem.W.Frag} {r : MC} {σ : St} {H : Hp} {Q : VK} (h : lift K (mCall r mr) σ H Q) : tCB (liftC K r) (liftA K mr) σ H Q := by
  obtain ⟨env, st, Q0, re, rs, h, k⟩ := h
  refine liftA_in re rs h fun xs st1 xs' H1 q1 e1 rx re1 rs1 => ?_
  exact ⟨xs, st1, Q0, rx, rs1, q1, fun d st' v H' q e r s => k d st' v H' q (e1.trans e) r s⟩
theorem de_callB {x : Str} {id : String} {p pos : Pos} {r : MC} (hc : DC X (.builtin id) r) (hg : Gl X x) (hm : X.mg x = none) (hv : bootBuiltins x = some (.builtin id)) (ha : DA X (e :: es) mr) (hn : x ≠ "__name__" := by decide) (hdb : (x == ("__debug__" : Str)) = false := by decide)
    (he : starEach (e :: es) X.env = (false, eval e X.env) :: starEach es X.env := by rfl) (hpl : (backTo pos (starEach es X.env)).any (·.1) = false := by rfl) : DE X (.Call (.Name x p) (e :: es) [] pos) (mCall r mr) :=
  ⟨pe_mono (pe_callB hc.call hg hm hv ha.pa hn hdb he hpl) fun _ _ _ => lift_call⟩
theorem de_callTy {x : Str} {T : String} {p pos : Pos} {r : MC} (hc : DC X (.type T) r) (hg : Gl X x) (hm : X.mg x = none) (hv : bootBuiltins x = some (.type T)) (ha : DA X (e :: es) mr) (hn : x ≠ "__name__" := by decide) (hdb : (x == ("__debug__" : Str)) = false := by decide)
    (he : starEach (e :: es) X.env = (false, eval e X.env) :: starEach es X.env := by rfl) (hpl : (backTo pos (starEach es X.env)).any (·.1) = false := by rfl) : DE X (.Call (.Name x p) (e :: es) [] pos) (mCall r mr) :=
  ⟨pe_mono (pe_callTy hc.call hg hm hv ha.pa hn hdb he hpl) fun _ _ _ => lift_call⟩

/-! ### defs of the text -/
/-- a def's promise over data -/
abbrev DSp := List D → Sto → DK → Prop
def liftSp (K : PySem.W.Frag) (sp : DSp) : Sp := fun vs H Q' _ => ∃ ds st Q, RelDs K H ds vs ∧ RelSto K H st ∧ sp ds st Q ∧
  ∀ d st' v H', Q d st' → Ext H H' → RelD K H' d v → RelSto K H' st' → Q' v H'
theorem de_call {x : Str} {k : Nat} {f : Addr} {fd : FuncData} {ps : List Str} {sp : DSp} {p pos : Pos} (F : FnOk X.prog X.w X.K X.mg X.base CX0 k f fd ps (liftSp X.K sp)) (hr : Room k X.A) (hg : Gl X x) (hm : X.mg x = some (.ref f)) (hk : PySem.W.keepIn X.K (.ref f) = true) (hb : Binds X.K fd ps [])
    (ha : DA X (e :: es) mr) (hdb : (x == ("__debug__" : Str)) = false := by decide) (he : starEach (e :: es) X.env = (false, eval e X.env) :: starEach es X.env := by rfl) (hpl : (backTo pos (starEach es X.env)).any (·.1) = false := by rfl) :
    DE X (.Call (.Name x p) (e :: es) [] pos) (mCall sp mr) :=
  ⟨pe_mono (pe_call F hr hg hm hk hb .nil pass0 ha.pa hdb he hpl) fun σ H Q h => by
    obtain ⟨env, st, Q0, re, rs, h, k⟩ := h
    refine liftA_in re rs h fun xs st1 xs' H1 q1 e1 rx re1 rs1 => ?_
    rw [List.append_nil]
    exact ⟨xs, st1, Q0, rx, rs1, q1, fun d st' v H' q e r s => k d st' v H' q (e1.trans e) r s⟩⟩
theorem de_call0 {x : Str} {k : Nat} {f : Addr} {fd : FuncData} {ps : List Str} {sp : DSp} {p pos : Pos} (F : FnOk X.prog X.w X.K X.mg X.base CX0 k f fd ps (liftSp X.K sp)) (hr : Room k X.A) (hg : Gl X x) (hm : X.mg x = some (.ref f)) (hk : PySem.W.keepIn X.K (.ref f) = true) (hb : Binds X.K fd ps [])
    (hdb : (x == ("__debug__" : Str)) = false := by decide) : DE X (.Call (.Name x p) [] [] pos) (mCall sp mNil) :=
  ⟨pe_mono (pe_call0 F hr hg hm hk hb .nil pass0 hdb) fun σ H Q h => by
    obtain ⟨env, st, Q0, re, rs, h, k⟩ := h
    exact ⟨[], st, Q0, .nil, rs, h, k⟩⟩
end
end L2.DL

namespace L2.DL
open PySem PySem.Spec PyProof.Rows

/-! ### data compared -/
mutual
def toPy : D → Option PyData
  | .non => some .none
  | .bl b => some (.bool b)
  | .int i => some (.int i)
  | .str x => some (.str x)
  | .ty _ => none
  | .ref _ => none
  | .tup xs => (toPys xs).map .tuple
def toPys : List D → Option (List PyData)
  | [] => some []
  | d :: ds => (toPy d).bind fun p => (toPys ds).map fun ps => p :: ps
end
def pyOf (st : Sto) : D → Option PyData
  | .ref a => ((rdL (st a)).bind toPys).map .list
  | d => toPy d
mutual
theorem dp_of {K : PySem.W.Frag} {H : Hp} : ∀ {d : D} {v : V} {p : PyData}, RelD K H d v → toPy d = some p → Dp K H v p
  | .non, _, p, r, e => by cases r; simp only [toPy, Option.some.injEq] at e; subst e; exact .non
  | .bl b, _, p, r, e => by cases r; simp only [toPy, Option.some.injEq] at e; subst e; exact .bl b
  | .int b, _, p, r, e => by cases r; simp only [toPy, Option.some.injEq] at e; subst e; exact .int b
  | .str b, _, p, r, e => by cases r; simp only [toPy, Option.some.injEq] at e; subst e; exact .str b
  | .ty n, _, p, r, e => by simp [toPy] at e
  | .ref a, _, p, r, e => by simp [toPy] at e
  | .tup ds, _, p, r, e => by
    cases r with
    | tup h t =>
      simp only [toPy, Option.map_eq_some_iff] at e
      obtain ⟨ps, e, rfl⟩ := e
      exact .tup h (dps_of t e)
theorem dps_of {K : PySem.W.Frag} {H : Hp} : ∀ {ds : List D} {vs : List V} {ps : List PyData}, RelDs K H ds vs → toPys ds = some ps → DpAll K H vs ps
  | [], _, ps, r, e => by cases r; simp only [toPys, Option.some.injEq] at e; subst e; exact .nil
  | d :: ds, _, ps, r, e => by
    cases r with
    | cons r t =>
      simp only [toPys, Option.bind_eq_some_iff, Option.map_eq_some_iff] at e
      obtain ⟨p, e1, qs, e2, rfl⟩ := e
      exact .cons (dp_of r e1) (dps_of t e2)
end
theorem pyOf_dp {K : PySem.W.Frag} {H : Hp} {st : Sto} {d : D} {v : V} {p : PyData} (rs : RelSto K H st) (r : RelD K H d v) (e : pyOf st d = some p) : Dp K H v p := by
  cases d with
  | ref a =>
    cases r
    simp only [pyOf, Option.map_eq_some_iff, Option.bind_eq_some_iff] at e
    obtain ⟨ps, ⟨xs, e1, e2⟩, rfl⟩ := e
    obtain ⟨vs, h1, h2⟩ := rs.rdL e1
    exact .lst h1 (dps_of h2 e2)
  | _ => exact dp_of r e

theorem opr_mono {X : Cx} {f : Value → Value → Sem Value} {r r' : R2} (h : OpR X f r) (k : ∀ x y H Q, r' x y H Q → r x y H Q) : OpR X f r' :=
  fun pins s σ H x y v u Q I rx ry q => h pins s σ H x y v u Q I rx ry (k _ _ _ _ q)
theorem callr_mono {X : Cx} {f : Value} {r r' : List V → Hp → VK → Prop} (h : CallR X f r) (k : ∀ xs H Q, r' xs H Q → r xs H Q) : CallR X f r' :=
  fun pins s σ H xs us Q I rx q => h pins s σ H xs us Q I rx (k _ _ _ q)
theorem ixr_mono {X : Cx} {r r' : R2} (h : IxR X r) (k : ∀ x y H Q, r' x y H Q → r x y H Q) : IxR X r' :=
  fun value slice pins s σ H x y v u Q I rx ry q hs => h value slice pins s σ H x y v u Q I rx ry (k _ _ _ _ q) hs
theorem mtr_mono {X : Cx} {id : String} {r r' : V → List V → Hp → VK → Prop} (h : MtR X id r) (k : ∀ x xs H Q, r' x xs H Q → r x xs H Q) : MtR X id r' :=
  fun pins s σ H x xs v us Q I rx rs q => h pins s σ H x xs v us Q I rx rs (k _ _ _ _ q)

/-! ### two-place operations -/
def oAdd : M2
  | .int i, .int j, st, Q => Q (.int (i + j)) st
  | .str i, .str j, st, Q => i.length + j.length ≤ sizeLine ∧ Q (.str (i ++ j)) st
  | .tup a, .tup b, st, Q => a.length + b.length ≤ sizeLine ∧ Q (.tup (a ++ b)) st
  | .ref a, .ref b, st, Q => ∃ xs ys, st a = some (.lst xs) ∧ st b = some (.lst ys) ∧ xs.length + ys.length ≤ sizeLine ∧ ∀ p, Nf st p → Q (.ref p) (put st p (.lst (xs ++ ys)))
  | _, _, _, _ => False
def oSub : M2
  | .int i, .int j, st, Q => Q (.int (i - j)) st
  | _, _, _, _ => False
def oMul : M2
  | .int i, .int j, st, Q => CMulW i j ∧ Q (.int (i * j)) st
  | .ref a, .int k, st, Q => ∃ xs, st a = some (.lst xs) ∧ (-(2 ^ 63) ≤ k ∧ k < 2 ^ 63) ∧ xs.length * k.toNat ≤ sizeLine ∧ ∀ p, Nf st p → Q (.ref p) (put st p (.lst (List.replicate k.toNat xs).flatten))
  | .tup xs, .int k, st, Q => xs ≠ [] ∧ 2 ≤ k ∧ (xs.length : Int) * k ≤ 1000000 ∧ Q (.tup (List.replicate k.toNat xs).flatten) st
  | _, _, _, _ => False
def oDiv : M2
  | .int i, .int j, st, Q => CDivW i j ∧ Q (.int (i / j)) st
  | _, _, _, _ => False
def oMod : M2
  | .int i, .int j, st, Q => 0 < j ∧ Q (.int (i % j)) st
  | _, _, _, _ => False
def oPow : M2
  | .int i, .int j, st, Q => CPow i j ∧ Q (.int (i ^ j.toNat)) st
  | _, _, _, _ => False
/-- == of flat values of kinds that do not mix -/
def eqSc : D → D → Option Bool
  | .non, .non => some true
  | .non, .int _ => some false
  | .int _, .non => some false
  | .non, .bl _ => some false
  | .bl _, .non => some false
  | .non, .str _ => some false
  | .str _, .non => some false
  | .int i, .int j => some (decide (i = j))
  | .bl i, .bl j => some (decide (i = j))
  | .str i, .str j => some (decide (i = j))
  | .int _, .str _ => some false
  | .str _, .int _ => some false
  | .bl _, .str _ => some false
  | .str _, .bl _ => some false
  | _, _ => none
def oEq (x y : D) (st : Sto) (Q : DK) : Prop := (∃ b, eqSc x y = some b ∧ Q (.bl b) st) ∨ ∃ p q, pyOf st x = some p ∧ pyOf st y = some q ∧ SeqAt.shaped p = true ∧ SeqAt.shaped q = true ∧ Q (.bl (p.eqv q)) st
def oNe (x y : D) (st : Sto) (Q : DK) : Prop := (∃ b, eqSc x y = some b ∧ Q (.bl (!b)) st) ∨ ∃ p q, pyOf st x = some p ∧ pyOf st y = some q ∧ SeqAt.shaped p = true ∧ SeqAt.shaped q = true ∧ Q (.bl (!p.eqv q)) st
def oLt : M2
  | .int i, .int j, st, Q => Q (.bl (decide (i < j))) st
  | .str i, .str j, st, Q => Q (.bl (decide (i.cps.toList < j.cps.toList))) st
  | _, _, _, _ => False
def oLe : M2
  | .int i, .int j, st, Q => Q (.bl (decide (i ≤ j))) st
  | _, _, _, _ => False
def oGt : M2
  | .int i, .int j, st, Q => Q (.bl (decide (j < i))) st
  | _, _, _, _ => False
def oGe : M2
  | .int i, .int j, st, Q => Q (.bl (decide (j ≤ i))) st
  | _, _, _, _ => False
def oIs : M2
  | x, .non, st, Q => Q (.bl (match x with | .non => true | _ => false)) st
  | x, .bl b, st, Q => Q (.bl (match x with | .bl a => decide (a = b) | _ => false)) st
  | _, _, _, _ => False
def oIsNot : M2
  | x, .non, st, Q => Q (.bl (match x with | .non => false | _ => true)) st
  | x, .bl b, st, Q => Q (.bl (match x with | .bl a => !decide (a = b) | _ => true)) st
  | _, _, _, _ => False
/-- flat values and their == -/
def flatD : D → Bool
  | .non => true
  | .bl _ => true
  | .int _ => true
  | .str _ => true
  | _ => false
def eqF : D → D → Bool
  | .non, .non => true
  | .bl a, .bl b => a == b
  | .bl a, .int b => (if a then 1 else 0) == b
  | .int a, .bl b => a == (if b then 1 else 0)
  | .int a, .int b => a == b
  | .str a, .str b => a == b
  | _, _ => false
def inF (x : D) (xs : List D) : Bool := xs.any fun y => eqF y x
def keyD : D → Option Key
  | .int i => some (.inl i)
  | .str x => some (.inr x)
  | _ => none
def valD {κ : Type} [DecidableEq κ] (kvs : List (κ × D)) (k : κ) : Option D := (kvs.find? fun kv => decide (kv.1 = k)).map (·.2)
def oIn : M2
  | .str c, .str z, st, Q => Q (.bl (!(Builtin.Str.occurrences z c 0 z.length 1).isEmpty)) st
  | x, .tup xs, st, Q => flatD x = true ∧ xs.all flatD = true ∧ Q (.bl (inF x xs)) st
  | x, .ref a, st, Q => (∃ xs, rdL (st a) = some xs ∧ flatD x = true ∧ xs.all flatD = true ∧ Q (.bl (inF x xs)) st) ∨
      (∃ kvs k, rdD (st a) = some kvs ∧ keyD x = some k ∧ Q (.bl (valD kvs k).isSome) st)
  | _, _, _, _ => False
def oNotIn (x y : D) (st : Sto) (Q : DK) : Prop := oIn x y st fun d st' => ∃ b, d = .bl b ∧ Q (.bl (!b)) st'

section
variable {X : Cx}
theorem RelK.valD {κ : Type} [DecidableEq κ] {K : PySem.W.Frag} {H : Hp} : ∀ {ds : List (κ × D)} {vs : List (κ × V)} (k : κ), RelK K H ds vs → RelX K H (DL.valD ds k) (valV vs k) ∧ (DL.valD ds k).isSome = (valV vs k).isSome
  | _, _, k, .nil => ⟨trivial, rfl⟩
  | _, _, k, .cons (k := k') (d := d) (v := v) (ds := ds) (vs := vs) r t => by
    unfold DL.valD valV
    by_cases h : k' = k
    · subst h
      simp only [List.find?_cons, decide_true]
      exact ⟨r, rfl⟩
    · simp only [List.find?_cons, decide_eq_false h]
      exact RelK.valD k t
theorem do_add : DO2 X (binaryOp .Add) oAdd :=
  ⟨opr_mono (((op_add (X := X)).or op_add_str).or (op_catA.or op_cat)) fun x y H Q ⟨dx, dy, st, Q0, rx, ry, rs, h, k⟩ => by
    cases dx <;> cases dy <;> simp only [oAdd] at h <;> try exact h.elim
    · cases rx; cases ry
      exact .inl (.inl ⟨_, _, rfl, rfl, k _ st _ H h .refl (.int _) rs⟩)
    · cases rx; cases ry
      obtain ⟨hl, h⟩ := h
      exact .inl (.inr ⟨_, _, rfl, rfl, hl, k _ st _ H h .refl (.str _) rs⟩)
    · cases rx; cases ry
      obtain ⟨xs, ys, h1, h2, hl, h⟩ := h
      obtain ⟨vs, g1, r1⟩ := rs _ _ h1
      obtain ⟨ws, g2, r2⟩ := rs _ _ h2
      refine .inr (.inr ⟨_, _, vs, ws, rfl, rfl, g1, g2, by rw [← r1.length, ← r2.length]; exact hl, fun p hp => ?_⟩)
      have ex : Ext H (upd H p (.lst (vs ++ ws))) := .upd_new hp
      exact k _ _ _ _ (h p (rs.fresh hp)) ex (.ref p) (rs.put ex ⟨_, upd_same, (r1.append r2).mono ex⟩)
    · obtain ⟨a, vs, rfl, g1, r1⟩ := rx.tup_of
      obtain ⟨b, ws, rfl, g2, r2⟩ := ry.tup_of
      obtain ⟨hl, h⟩ := h
      refine .inr (.inl ⟨a, b, vs, ws, rfl, rfl, g1, g2, by rw [← r1.length, ← r2.length]; exact hl, fun e => ?_, fun _ e => ?_, fun _ _ p hp => ?_⟩)
      · subst e
        cases r1
        exact k _ st _ H h .refl (by simpa using ry) rs
      · subst e
        cases r2
        exact k _ st _ H h .refl (by simpa using rx) rs
      · have ex : Ext H (upd H p (.tup (vs ++ ws))) := .upd_new hp
        exact k _ st _ _ h ex (.tup (.of upd_same) ((r1.append r2).mono ex)) (rs.new hp)⟩
theorem do_sub : DO2 X (binaryOp .Sub) oSub :=
  ⟨opr_mono op_sub fun x y H Q ⟨dx, dy, st, Q0, rx, ry, rs, h, k⟩ => by
    cases dx <;> cases dy <;> simp only [oSub] at h <;> try exact h.elim
    cases rx; cases ry
    exact ⟨_, _, rfl, rfl, k _ st _ H h .refl (.int _) rs⟩⟩
theorem RelDs.rep {K : PySem.W.Frag} {H : Hp} {ds : List D} {vs : List V} (r : RelDs K H ds vs) : ∀ k : Nat, RelDs K H (List.replicate k ds).flatten (List.replicate k vs).flatten
  | 0 => .nil
  | k + 1 => by
    rw [List.replicate_succ, List.replicate_succ, List.flatten_cons, List.flatten_cons]
    exact r.append (RelDs.rep r k)
/-- a tuple some times -/
theorem op_times : OpR X (binaryOp .Mult) (fun x y H Q => ∃ (l : Addr) (k : Int) (xs : List V), x = .ref l ∧ y = .int k ∧ SqT X.K H l xs ∧ xs ≠ [] ∧ 2 ≤ k ∧ (xs.length : Int) * k ≤ 1000000 ∧ ∀ p, H p = none → Q (.ref p) (upd H p (.tup (List.replicate k.toNat xs).flatten))) := by
  intro pins s σ H x y v u Q I rx ry w
  obtain ⟨l, k, xs, rfl, rfl, hT, ne, k2, km, q⟩ := w
  cases rx
  obtain ⟨t, rfl⟩ := ry
  obtain ⟨its, r, ⟨⟨cls, dd, data, sl⟩, ho, hc, n, hd⟩, hs⟩ := I.tuple hT
  simp only at hc hd
  subst hc hd
  have le : xs.length = its.length := r.length
  have tn : k.toNat * xs.length ≤ 1000000 := by
    have e : ((k.toNat * xs.length : Nat) : Int) = (xs.length : Int) * k := by rw [Int.natCast_mul, Int.mul_comm, Int.toNat_of_nonneg (by omega)]
    omega
  have i0 : its.toArray.isEmpty = false := by
    cases its with
    | cons a b => rfl
    | nil => exact absurd (List.eq_nil_of_length_eq_zero le) ne
  have z0 : ((its.toArray.size : Nat) : Int) * k ≤ 1000000 := by rw [List.size_toArray, ← le]; exact km
  have fl : (List.replicate k.toNat its).flatten.length ≤ sizeLine := by rw [PyProof.Rows.lm_len_rep_flat, ← le, sizeLine_eq]; omega
  have kl : k ≤ 1000000 := by
    have p1 : 1 ≤ (xs.length : Int) := by
      have := List.length_pos_iff.mpr ne
      omega
    have := Int.mul_le_mul_of_nonneg_right p1 (show (0 : Int) ≤ k by omega)
    omega
  have d0 : (decide (k < -(2 ^ 63)) || decide (k ≥ 2 ^ 63)) = false := by simp; omega
  have d1 : (its.toArray.isEmpty || k == 1) = false := by rw [i0]; simp; omega
  have d2 : (decide (k ≤ 0) || its.toArray.isEmpty) = false := by rw [i0]; simp; omega
  have d4 : Builtin.Tuple.tupleTooMany (((its.toArray.size : Nat) : Int) * k) = false := by unfold Builtin.Tuple.tupleTooMany; rw [sizeLine_eq]; simp only [decide_eq_false_iff_not]; omega
  have M := tuple_mulW l its.toArray n dd sl k t d0 d1 d2 (by omega) d4 (by rw [size_rep, List.size_toArray]; exact fl)
  refine wpAny_binaryOp_repeat_ref (T := "tuple") (U := "int") (by decide) ⟨_, ho, rfl⟩ (fun s' => typeIs_int s' k t) noFill_tuple_mul F.fills_int_mul F.slot_int_rmul repeat_tuple F.slot_int_index.lookup
    (call_meets F.slot_int_rmul (typeIs_int s k t) F.entry_int_rmul (F.args_int_rmul_2 _ _) (int_rmul_tuple k t l its.toArray n dd sl) ⟨ho, rfl, ⟨_, ho, rfl⟩, call_meets F.slot_tuple_mul ⟨_, ho, rfl⟩ F.entry_tuple_mul (F.args_tuple_mul_2 _ _) M ⟨ho, ?_⟩⟩)
  rw [size_rep]
  refine ⟨.ref s.heap.objs.size, _, I.laid (t' := s.toks) (o := .tup (List.replicate k.toNat xs).flatten) (fun b ob q => Heap.get?_push_of_some _ q) (Nat.le_refl _) ?_, rfl, q _ (I.hok.fresh (Nat.le_refl _))⟩
  exact ⟨by rw [PyProof.Rows.lm_len_rep_flat, sizeLine_eq]; omega, _, r.rep k.toNat, IsTup.new _ _⟩
theorem do_mul : DO2 X (binaryOp .Mult) oMul :=
  ⟨opr_mono (((op_mulW (X := X)).or op_rep).or op_times) fun x y H Q ⟨dx, dy, st, Q0, rx, ry, rs, h, k⟩ => by
    cases dx <;> cases dy <;> simp only [oMul] at h <;> try exact h.elim
    · cases rx; cases ry
      exact .inl (.inl ⟨_, _, rfl, rfl, h.1, k _ st _ H h.2 .refl (.int _) rs⟩)
    · cases rx; cases ry
      obtain ⟨xs, e, ⟨b1, b2⟩, hl, h⟩ := h
      obtain ⟨vs, g, r⟩ := rs _ _ e
      have ex : ∀ p u, H p = none → Ext H (upd H p u) := fun p u hp => .upd_new hp
      exact .inl (.inr ⟨_, _, vs, rfl, rfl, g, b1, b2, by rw [← r.length]; exact hl, fun p hp =>
        k _ _ _ _ (h p (rs.fresh hp)) (ex p _ hp) (.ref p) (rs.put (ex p _ hp) ⟨_, upd_same, (r.rep _).mono (ex p _ hp)⟩)⟩)
    · cases ry
      obtain ⟨ne, k2, km, h⟩ := h
      obtain ⟨a, vs, rfl, g, r⟩ := rx.tup_of
      refine .inr ⟨a, _, vs, rfl, rfl, g, fun e => ?_, k2, by rw [← r.length]; exact km, fun p hp => ?_⟩
      · have := r.length
        rw [e] at this
        exact ne (List.eq_nil_of_length_eq_zero this)
      · have ex : ∀ u, Ext H (upd H p u) := fun u => .upd_new hp
        exact k _ st _ _ h (ex _) (.tup (.of upd_same) ((r.rep _).mono (ex _))) (rs.new hp)⟩
theorem do_div : DO2 X (binaryOp .FloorDiv) oDiv :=
  ⟨opr_mono op_fdivW fun x y H Q ⟨dx, dy, st, Q0, rx, ry, rs, h, k⟩ => by
    cases dx <;> cases dy <;> simp only [oDiv] at h <;> try exact h.elim
    cases rx; cases ry
    exact ⟨_, _, rfl, rfl, h.1, k _ st _ H h.2 .refl (.int _) rs⟩⟩
theorem do_mod : DO2 X (binaryOp .Mod) oMod :=
  ⟨opr_mono op_mod fun x y H Q ⟨dx, dy, st, Q0, rx, ry, rs, h, k⟩ => by
    cases dx <;> cases dy <;> simp only [oMod] at h <;> try exact h.elim
    cases rx; cases ry
    exact ⟨_, _, rfl, rfl, h.1, k _ st _ H h.2 .refl (.int _) rs⟩⟩
theorem do_pow : DO2 X (binaryOp .Pow) oPow :=
  ⟨opr_mono op_pow fun x y H Q ⟨dx, dy, st, Q0, rx, ry, rs, h, k⟩ => by
    cases dx <;> cases dy <;> simp only [oPow] at h <;> try exact h.elim
    cases rx; cases ry
    exact ⟨_, _, rfl, rfl, h.1, k _ st _ H h.2 .refl (.int _) rs⟩⟩
theorem eqSc_rel {K : PySem.W.Frag} {H : Hp} {x y : D} {v w : V} {b : Bool} (r : RelD K H x v) (q : RelD K H y w) (e : eqSc x y = some b) : scal v w = true ∧ decide (v = w) = b := by
  cases r <;> cases q <;> simp only [eqSc, Option.some.injEq, reduceCtorEq] at e <;> subst e <;> refine ⟨rfl, ?_⟩ <;> simp
theorem do_eq (hu : X.A.units + 64 < cLine) : DO2 X (compareOp .Eq) oEq :=
  ⟨opr_mono ((op_eq (X := X)).or (op_eqD hu)) fun x y H Q ⟨dx, dy, st, Q0, rx, ry, rs, h, k⟩ => by
    rcases h with ⟨b, e, h⟩ | ⟨p, q, e1, e2, s1, s2, h⟩
    · obtain ⟨s1, e1⟩ := eqSc_rel rx ry e
      exact .inl ⟨s1, by rw [e1]; exact k _ st _ H h .refl (.bl _) rs⟩
    · exact .inr ⟨p, q, pyOf_dp rs rx e1, pyOf_dp rs ry e2, s1, s2, k _ st _ H h .refl (.bl _) rs⟩⟩
theorem do_ne (hu : X.A.units + 64 < cLine) : DO2 X (compareOp .NotEq) oNe :=
  ⟨opr_mono ((op_ne (X := X)).or (op_neD hu)) fun x y H Q ⟨dx, dy, st, Q0, rx, ry, rs, h, k⟩ => by
    rcases h with ⟨b, e, h⟩ | ⟨p, q, e1, e2, s1, s2, h⟩
    · obtain ⟨s1, e1⟩ := eqSc_rel rx ry e
      exact .inl ⟨s1, by rw [e1]; exact k _ st _ H h .refl (.bl _) rs⟩
    · exact .inr ⟨p, q, pyOf_dp rs rx e1, pyOf_dp rs ry e2, s1, s2, k _ st _ H h .refl (.bl _) rs⟩⟩
theorem do_lt : DO2 X (compareOp .Lt) oLt :=
  ⟨opr_mono ((op_lt (X := X)).or op_lt_str) fun x y H Q ⟨dx, dy, st, Q0, rx, ry, rs, h, k⟩ => by
    cases dx <;> cases dy <;> simp only [oLt] at h <;> try exact h.elim
    · cases rx; cases ry
      exact .inl ⟨_, _, rfl, rfl, k _ st _ H h .refl (.bl _) rs⟩
    · cases rx; cases ry
      exact .inr ⟨_, _, rfl, rfl, k _ st _ H h .refl (.bl _) rs⟩⟩
theorem do_le : DO2 X (compareOp .LtE) oLe :=
  ⟨opr_mono op_le fun x y H Q ⟨dx, dy, st, Q0, rx, ry, rs, h, k⟩ => by
    cases dx <;> cases dy <;> simp only [oLe] at h <;> try exact h.elim
    cases rx; cases ry
    exact ⟨_, _, rfl, rfl, k _ st _ H h .refl (.bl _) rs⟩⟩
theorem do_gt : DO2 X (compareOp .Gt) oGt :=
  ⟨opr_mono op_gt fun x y H Q ⟨dx, dy, st, Q0, rx, ry, rs, h, k⟩ => by
    cases dx <;> cases dy <;> simp only [oGt] at h <;> try exact h.elim
    cases rx; cases ry
    exact ⟨_, _, rfl, rfl, k _ st _ H h .refl (.bl _) rs⟩⟩
theorem do_ge : DO2 X (compareOp .GtE) oGe :=
  ⟨opr_mono op_ge fun x y H Q ⟨dx, dy, st, Q0, rx, ry, rs, h, k⟩ => by
    cases dx <;> cases dy <;> simp only [oGe] at h <;> try exact h.elim
    cases rx; cases ry
    exact ⟨_, _, rfl, rfl, k _ st _ H h .refl (.bl _) rs⟩⟩
theorem RelD.isNon {K : PySem.W.Frag} {H : Hp} {d : D} {v : V} (r : RelD K H d v) : decide (v = .non) = (match d with | .non => true | _ => false) := by
  cases r <;> simp
theorem rel_bool {x : V} {v : Value} {b : Bool} (r : RelV x v) : plainIs v (.bool b) = true ∧ (v == Value.bool b) = decide (x = .bl b) := by
  cases x with
  | non => cases r; exact ⟨rfl, rfl⟩
  | bl c => cases r; cases b <;> cases c <;> exact ⟨rfl, rfl⟩
  | int i => obtain ⟨t, rfl⟩ := r; exact ⟨rfl, rfl⟩
  | str i => obtain ⟨t, rfl⟩ := r; exact ⟨rfl, rfl⟩
  | byt i => obtain ⟨t, rfl⟩ := r; exact ⟨rfl, rfl⟩
  | flt i => obtain ⟨t, rfl⟩ := r; exact ⟨rfl, rfl⟩
  | ref i => cases r; exact ⟨rfl, rfl⟩
  | ty i => cases r; exact ⟨rfl, rfl⟩
theorem op_isTF : OpR X (compareOp .Is) (fun x y H Q => ∃ b, y = .bl b ∧ Q (.bl (decide (x = .bl b))) H) := by
  rintro pins s σ H x y v u Q I rx ry ⟨b, rfl, q⟩
  cases ry
  obtain ⟨h1, h2⟩ := rel_bool (b := b) rx
  exact wpAny_is_plain h1 ⟨_, H, I, by rw [h2]; rfl, q⟩
theorem op_notTF : OpR X (compareOp .IsNot) (fun x y H Q => ∃ b, y = .bl b ∧ Q (.bl (!decide (x = .bl b))) H) := by
  rintro pins s σ H x y v u Q I rx ry ⟨b, rfl, q⟩
  cases ry
  obtain ⟨h1, h2⟩ := rel_bool (b := b) rx
  exact wpAny_isNot_plain h1 ⟨_, H, I, by rw [h2]; rfl, q⟩
theorem RelD.isBl {K : PySem.W.Frag} {H : Hp} {d : D} {v : V} {b : Bool} (r : RelD K H d v) : decide (v = .bl b) = (match d with | .bl a => decide (a = b) | _ => false) := by
  cases r <;> simp
theorem do_is : DO2 X (compareOp .Is) oIs :=
  ⟨opr_mono ((op_isN (X := X)).or op_isTF) fun x y H Q ⟨dx, dy, st, Q0, rx, ry, rs, h, k⟩ => by
    cases dy with
    | non =>
      cases ry
      refine .inl ⟨rfl, ?_⟩
      rw [rx.isNon]
      cases dx <;> exact k _ st _ H h .refl (.bl _) rs
    | bl b =>
      cases ry
      refine .inr ⟨b, rfl, ?_⟩
      rw [rx.isBl]
      cases dx <;> exact k _ st _ H h .refl (.bl _) rs
    | _ => cases dx <;> exact h.elim⟩
theorem do_isnot : DO2 X (compareOp .IsNot) oIsNot :=
  ⟨opr_mono ((op_notN (X := X)).or op_notTF) fun x y H Q ⟨dx, dy, st, Q0, rx, ry, rs, h, k⟩ => by
    cases dy with
    | non =>
      cases ry
      refine .inl ⟨rfl, ?_⟩
      rw [rx.isNon]
      cases dx <;> exact k _ st _ H h .refl (.bl _) rs
    | bl b =>
      cases ry
      refine .inr ⟨b, rfl, ?_⟩
      rw [rx.isBl]
      cases dx <;> exact k _ st _ H h .refl (.bl _) rs
    | _ => cases dx <;> exact h.elim⟩
theorem flat_rel {K : PySem.W.Frag} {H : Hp} {d : D} {v : V} (r : RelD K H d v) (f : flatD d = true) : flatV v = true := by
  cases r <;> first | rfl | exact f
theorem flats_rel {K : PySem.W.Frag} {H : Hp} : ∀ {ds : List D} {vs : List V}, RelDs K H ds vs → ds.all flatD = true → vs.all flatV = true
  | _, _, .nil, _ => rfl
  | _, _, .cons r t, f => by
    simp only [List.all_cons, Bool.and_eq_true] at f ⊢
    exact ⟨flat_rel r f.1, flats_rel t f.2⟩
theorem eqF_rel {K : PySem.W.Frag} {H : Hp} {d e : D} {v w : V} (r : RelD K H d v) (q : RelD K H e w) (f : flatD d = true) (g : flatD e = true) : eqV v w = eqF d e := by
  cases r <;> cases q <;> first | rfl | (simp [flatD] at f; done) | (simp [flatD] at g; done)
theorem inF_rel {K : PySem.W.Frag} {H : Hp} {x : D} {v : V} (r : RelD K H x v) (f : flatD x = true) : ∀ {ds : List D} {vs : List V}, RelDs K H ds vs → ds.all flatD = true → inV v vs = inF x ds
  | _, _, .nil, _ => rfl
  | _, _, .cons (d := d) (v := w) (ds := ds) (vs := vs) q t, g => by
    simp only [List.all_cons, Bool.and_eq_true] at g
    have ih := inF_rel r f t g.2
    unfold inV inF at ih ⊢
    rw [List.any_cons, List.any_cons, ih, eqF_rel q r g.1 f]
theorem key_rel {K : PySem.W.Frag} {H : Hp} {x : D} {v : V} {k : Key} (r : RelD K H x v) (e : keyD x = some k) : v = kV k := by
  cases r <;> simp [keyD] at e <;> subst e <;> rfl
theorem or_dictIn (hu : X.A.units + 1 < cLine) : OpR X (compareOp .In) (fun x y H Q => ∃ a o, y = .ref a ∧ DGet H a x o ∧ Q (.bl o.isSome) H) := by
  intro pins s σ H x y v u Q I rx ry h
  obtain ⟨a, o, rfl, g, q⟩ := h
  obtain rfl : u = Value.ref a := ry
  exact d_in hu I g rx fun s' I' => ⟨.bl o.isSome, H, I', rfl, q⟩
theorem or_dictNotIn (hu : X.A.units + 1 < cLine) : OpR X (compareOp .NotIn) (fun x y H Q => ∃ a o, y = .ref a ∧ DGet H a x o ∧ Q (.bl (!o.isSome)) H) := by
  intro pins s σ H x y v u Q I rx ry h
  obtain ⟨a, o, rfl, g, q⟩ := h
  obtain rfl : u = Value.ref a := ry
  exact d_notIn hu I g rx fun s' I' => ⟨.bl (!o.isSome), H, I', rfl, q⟩
theorem do_in (hu : X.A.units + 1 < cLine) : DO2 X (compareOp .In) oIn :=
  ⟨opr_mono (((op_in_str (X := X)).or op_in_seq).or (or_dictIn hu)) fun x y H Q ⟨dx, dy, st, Q0, rx, ry, rs, h, k⟩ => by
    cases dy with
    | str z =>
      cases dx <;> simp only [oIn] at h <;> try exact h.elim
      cases rx; cases ry
      exact .inl (.inl ⟨_, _, rfl, rfl, k _ st _ H h .refl (.bl _) rs⟩)
    | tup ds =>
      obtain ⟨a, vs, rfl, g, r⟩ := ry.tup_of
      have h' : flatD dx = true ∧ ds.all flatD = true ∧ Q0 (.bl (inF dx ds)) st := by cases dx <;> exact h
      obtain ⟨f1, f2, h'⟩ := h'
      refine .inl (.inr ⟨a, vs, rfl, .inr g, flat_rel rx f1, flats_rel r f2, ?_⟩)
      rw [if_neg Bool.false_ne_true, inF_rel rx f1 r f2]
      exact k _ st _ H h' .refl (.bl _) rs
    | ref a =>
      cases ry
      have h' : (∃ xs, rdL (st a) = some xs ∧ flatD dx = true ∧ xs.all flatD = true ∧ Q0 (.bl (inF dx xs)) st) ∨ (∃ kvs kk, rdD (st a) = some kvs ∧ keyD dx = some kk ∧ Q0 (.bl (valD kvs kk).isSome) st) := by cases dx <;> exact h
      rcases h' with ⟨xs, e, f1, f2, h'⟩ | ⟨kvs, kk, e, ek, h'⟩
      · obtain ⟨vs, g, r⟩ := rs.rdL e
        refine .inl (.inr ⟨a, vs, rfl, .inl g, flat_rel rx f1, flats_rel r f2, ?_⟩)
        rw [if_neg Bool.false_ne_true, inF_rel rx f1 r f2]
        exact k _ st _ H h' .refl (.bl _) rs
      · obtain ⟨ws, g, r⟩ := rs.rdD e
        rw [key_rel rx ek]
        refine .inr ⟨a, _, rfl, .inl ⟨ws, kk, g, rfl, rfl⟩, ?_⟩
        rw [← (r.valD kk).2]
        exact k _ st _ H h' .refl (.bl _) rs
    | _ => cases dx <;> exact h.elim⟩
theorem do_notin (hu : X.A.units + 1 < cLine) : DO2 X (compareOp .NotIn) oNotIn :=
  ⟨opr_mono (((op_notIn_str (X := X)).or op_notIn_seq).or (or_dictNotIn hu)) fun x y H Q ⟨dx, dy, st, Q0, rx, ry, rs, h, k⟩ => by
    unfold oNotIn at h
    cases dy with
    | str z =>
      cases dx <;> simp only [oIn] at h <;> try exact h.elim
      cases rx; cases ry
      obtain ⟨b, e, h⟩ := h
      cases e
      exact .inl (.inl ⟨_, _, rfl, rfl, k _ st _ H h .refl (.bl _) rs⟩)
    | tup ds =>
      obtain ⟨a, vs, rfl, g, r⟩ := ry.tup_of
      have h' : flatD dx = true ∧ ds.all flatD = true ∧ ∃ b, D.bl (inF dx ds) = .bl b ∧ Q0 (.bl !b) st := by cases dx <;> exact h
      obtain ⟨f1, f2, b, e, h'⟩ := h'
      cases e
      refine .inl (.inr ⟨a, vs, rfl, .inr g, flat_rel rx f1, flats_rel r f2, ?_⟩)
      rw [if_pos rfl, inF_rel rx f1 r f2]
      exact k _ st _ H h' .refl (.bl _) rs
    | ref a =>
      cases ry
      have h' : (∃ xs, rdL (st a) = some xs ∧ flatD dx = true ∧ xs.all flatD = true ∧ ∃ b, D.bl (inF dx xs) = .bl b ∧ Q0 (.bl !b) st) ∨ (∃ kvs kk, rdD (st a) = some kvs ∧ keyD dx = some kk ∧ ∃ b, D.bl (valD kvs kk).isSome = .bl b ∧ Q0 (.bl !b) st) := by cases dx <;> exact h
      rcases h' with ⟨xs, e, f1, f2, b, eb, h'⟩ | ⟨kvs, kk, e, ek, b, eb, h'⟩
      · cases eb
        obtain ⟨vs, g, r⟩ := rs.rdL e
        refine .inl (.inr ⟨a, vs, rfl, .inl g, flat_rel rx f1, flats_rel r f2, ?_⟩)
        rw [if_pos rfl, inF_rel rx f1 r f2]
        exact k _ st _ H h' .refl (.bl _) rs
      · cases eb
        obtain ⟨ws, g, r⟩ := rs.rdD e
        rw [key_rel rx ek]
        refine .inr ⟨a, _, rfl, .inl ⟨ws, kk, g, rfl, rfl⟩, ?_⟩
        rw [← (r.valD kk).2]
        exact k _ st _ H h' .refl (.bl _) rs
    | _ => cases dx <;> exact h.elim⟩
end
end L2.DL

namespace L2.DL
open PySem PySem.Spec PyProof.Rows

/-! ### subscripts -/
theorem RelDs.atI {K : PySem.W.Frag} {H : Hp} {ds : List D} {vs : List V} {i : Int} {d : D} (r : RelDs K H ds vs) (h : L2.atI ds i = some d) : ∃ v, L2.atI vs i = some v ∧ RelD K H d v := by
  unfold L2.atI at h ⊢
  rw [← r.length]
  cases e : ixN ds.length i with
  | none => rw [e] at h; cases h
  | some j =>
    rw [e] at h
    obtain ⟨v, h1, h2⟩ := r.get (i := j) (d := d) h
    exact ⟨v, h1, h2⟩
def oIx : M2
  | .tup xs, .int i, st, Q => ∃ v, atI xs i = some v ∧ Q v st
  | .str z, .int i, st, Q => z.length ≤ sizeLine ∧ ∃ c, atI z.cps.toList i = some c ∧ Q (.str ⟨#[c]⟩) st
  | .ref a, y, st, Q => (∃ xs i v, rdL (st a) = some xs ∧ y = .int i ∧ atI xs i = some v ∧ Q v st) ∨ (∃ kvs k v, rdD (st a) = some kvs ∧ keyD y = some k ∧ valD kvs k = some v ∧ Q v st)
  | _, _, _, _ => False
structure DIx (X : Cx) (r : M2) : Prop where
  ix : IxR X (lift2 X.K r)
section
variable {X : Cx}
theorem ix_dict (hu : X.A.units + 1 < cLine) : IxR X (fun x y H Q => ∃ a v, x = .ref a ∧ DGet H a y (some v) ∧ Q v H) := by
  intro value slice pins s σ H x y u iv Q I rx ry h hs
  obtain ⟨a, v, ex, g, q⟩ := h
  subst ex
  obtain rfl : u = Value.ref a := rx
  have hT := dict_typeIs I g
  have h2 : wpAny (model X.prog X.w) X.A (getItem (.ref a) iv) (EP X pins σ Q) X.xe s := d_getItem hu I g ry fun w' s3 I3 rw' => ⟨v, H, I3, rw', q⟩
  unfold subscriptTail
  refine wpAny_bind ?_
  rw [getitemInPython_of_ne hT.not_modules]
  refine wpAny_bind (wpAny_specialOf hT PySem.F.slot_dict_getitem.lookup ?_)
  have fin : wpAny (model X.prog X.w) X.A (subscripted slice false (.ref a) iv) (fun r s₃ => wpAny (model X.prog X.w) X.A (letTemporaryGo value (.ref a) r >>= fun _ => pure r) (EP X pins σ Q) X.xe s₃) X.xe s := by
    rw [hs]
    exact wpAny_operating (wpAny_mono h2 (fun r s₃ h₃ => wpAny_bind (wpAny_letTemporaryGo (wpAny_pure h₃))) fun _ _ x => x)
  first
    | exact wpAny_pure (wpAny_bind fin)
    | exact wpAny_bind (wpAny_pure (wpAny_bind fin))
    | exact wpAny_bind fin
theorem di_all (hu : X.A.units + 1 < cLine) : DIx X oIx :=
  ⟨ixr_mono ((ix_seq (X := X)).or (ix_dict hu)) fun x y H Q ⟨dx, dy, st, Q0, rx, ry, rs, h, k⟩ => by
    cases dx with
    | tup ds =>
      cases dy <;> simp only [oIx] at h <;> try exact h.elim
      cases ry
      obtain ⟨v, e, h⟩ := h
      obtain ⟨a, vs, rfl, g, r⟩ := rx.tup_of
      obtain ⟨v', e', rv⟩ := r.atI e
      exact .inl (.inr (.inl ⟨a, vs, _, v', rfl, rfl, g, e', k _ st _ H h .refl rv rs⟩))
    | str z =>
      cases dy <;> simp only [oIx] at h <;> try exact h.elim
      cases ry; cases rx
      obtain ⟨hz, c, e, h⟩ := h
      exact .inl (.inr (.inr ⟨z, _, c, rfl, rfl, hz, e, k _ st _ H h .refl (.str _) rs⟩))
    | ref a =>
      cases rx
      have h' : (∃ xs i v, rdL (st a) = some xs ∧ dy = .int i ∧ atI xs i = some v ∧ Q0 v st) ∨ (∃ kvs kk v, rdD (st a) = some kvs ∧ keyD dy = some kk ∧ valD kvs kk = some v ∧ Q0 v st) := by cases dy <;> exact h
      rcases h' with ⟨xs, i, v, e1, rfl, e2, h'⟩ | ⟨kvs, kk, v, e1, e2, e3, h'⟩
      · cases ry
        obtain ⟨vs, g, r⟩ := rs.rdL e1
        obtain ⟨v', e', rv⟩ := r.atI e2
        exact .inl (.inl ⟨a, vs, i, v', rfl, rfl, g, e', k _ st _ H h' .refl rv rs⟩)
      · obtain ⟨ws, g, r⟩ := rs.rdD e1
        rw [key_rel ry e2]
        have rx := (r.valD kk).1
        rw [e3] at rx
        cases ev : valV ws kk with
        | none => rw [ev] at rx; exact rx.elim
        | some v' =>
          rw [ev] at rx
          exact .inr ⟨a, v', rfl, .inl ⟨ws, kk, g, rfl, ev.symm⟩, k _ st _ H h' .refl rx rs⟩
    | _ => cases dy <;> exact h.elim⟩
theorem de_ix {a b : Expr} {ma mb : ME} {pos : Pos} {r : M2} (hr : DIx X r) (ha : DE X a ma) (hb : DE X b mb) (hs : PlainIx b := by exact fun _ _ => rfl) : DE X (.Subscript a b pos) (mBin r ma mb) :=
  ⟨pe_mono (pe_ix hr.ix ha.pe hb.pe hs) fun _ _ _ => lift_bin⟩

/-! ### slices -/
abbrev MO := Env → Sto → (Option Int → Sto → Prop) → Prop
def liftO (K : PySem.W.Frag) (m : MO) : TO := fun σ H Q' => ∃ env st Q, RelE K H env σ ∧ RelSto K H st ∧ m env st Q ∧
  ∀ o st' H', Q o st' → Ext H H' → RelSto K H' st' → Q' o H'
structure DPo (X : Cx) (e : Option Expr) (m : MO) : Prop where
  po : PO X e (liftO X.K m)
def mNoPart : MO := fun _ st Q => Q none st
def mPart (m : ME) : MO := fun env st Q => m env st fun x st1 => ∃ i, x = .int i ∧ Q (some i) st1
theorem po_mono {e : Option Expr} {t t' : TO} (h : PO X e t) (k : ∀ σ H Q, t' σ H Q → t σ H Q) : PO X e t' := by
  refine ⟨fun pins s σ H Q I hw => ?_⟩
  exact h.run pins s σ H Q I (k _ _ _ hw)
theorem dp_none : DPo X none mNoPart := ⟨po_mono po_none fun σ H Q ⟨env, st, Q0, re, rs, h, k⟩ => k none st H h .refl rs⟩
theorem dp_some {e : Expr} {m : ME} (he : DE X e m) : DPo X (some e) (mPart m) :=
  ⟨po_mono (po_some he.pe) fun σ H Q ⟨env, st, Q0, re, rs, h, k⟩ => lift_in re rs h fun x st1 x' H1 ⟨i, e1, q⟩ ex rx re1 rs1 => by
    subst e1
    exact ⟨i, rx.int_of, k (some i) st1 H1 q ex rs1⟩⟩
def cutL {α : Type} (xs : List α) (lo hi : Option Int) : List α := (xs.drop (HT.sIx xs.length 0 lo)).take (HT.sIx xs.length xs.length hi - HT.sIx xs.length 0 lo)
theorem cutL_length {α : Type} (xs : List α) (lo hi : Option Int) : (cutL xs lo hi).length ≤ xs.length := by
  unfold cutL
  simp only [List.length_take, List.length_drop]
  omega
theorem RelDs.cut {K : PySem.W.Frag} {H : Hp} {ds : List D} {vs : List V} (r : RelDs K H ds vs) (lo hi : Option Int) : RelDs K H (cutL ds lo hi) (cutV vs lo hi) := by
  unfold cutL cutV
  rw [r.length]
  exact (r.drop _).take _
theorem cutL_whole {α : Type} {xs : List α} {lo hi : Option Int} (h1 : HT.sIx xs.length 0 lo = 0) (h2 : HT.sIx xs.length xs.length hi = xs.length) : cutL xs lo hi = xs := by
  unfold cutL
  rw [h1, h2]
  simp
abbrev MSl := D → Option Int → Option Int → Sto → DK → Prop
def oSl : MSl
  | .tup xs, lo, hi, st, Q => Q (.tup (cutL xs lo hi)) st
  | .str z, lo, hi, st, Q => z.length ≤ sizeLine ∧ Q (.str (cutS z lo hi)) st
  | .ref a, lo, hi, st, Q => ∃ xs, rdL (st a) = some xs ∧ ∀ p, Nf st p → Q (.ref p) (put st p (.lst (cutL xs lo hi)))
  | _, _, _, _, _ => False
def mSl (m : ME) (ml mh : MO) : ME := fun env st Q => m env st fun x st1 => ml env st1 fun lo st2 => mh env st2 fun hi st3 => oSl x lo hi st3 Q
theorem slr_mono {r r' : V → Option Int → Option Int → Hp → VK → Prop} (h : SlR X r) (k : ∀ x lo hi H Q, r' x lo hi H Q → r x lo hi H Q) : SlR X r' := by
  intro pins s σ H x v vl vu lo hi sl Q I rx hs pl pu q
  exact h pins s σ H x v vl vu lo hi sl Q I rx hs pl pu (k _ _ _ _ _ q)
theorem de_sl {e : Expr} {lo hi : Option Expr} {m : ME} {ml mh : MO} {p2 pos : Pos} (he : DE X e m) (hl : DPo X lo ml) (hu : DPo X hi mh) : DE X (.Subscript e (.Slice lo hi none p2) pos) (mSl m ml mh) :=
  ⟨pe_mono (pe_slice (slr_mono ((sl_tupA (X := X)).or (SlR.or sl_str sl_list)) fun x l u H Q (h : ∃ dx st Q0, RelD X.K H dx x ∧ RelSto X.K H st ∧ oSl dx l u st Q0 ∧ ∀ d st' v H', Q0 d st' → Ext H H' → RelD X.K H' d v → RelSto X.K H' st' → Q v H') => by
      obtain ⟨dx, st, Q0, rx, rs, h, k⟩ := h
      cases dx with
      | tup ds =>
        obtain ⟨a, vs, rfl, g, r⟩ := rx.tup_of
        refine .inl ⟨a, vs, rfl, g, fun ⟨e1, e2⟩ => ?_, fun _ p hp => ?_⟩
        · have e : cutL ds l u = ds := by rw [← r.length] at e1 e2; exact cutL_whole e1 e2
          refine k _ st _ H ?_ .refl rx rs
          have h' : Q0 (.tup (cutL ds l u)) st := h
          rw [e] at h'
          exact h'
        · have ex : Ext H (upd H p (.tup (cutV vs l u))) := .upd_new hp
          exact k _ st _ _ h ex (.tup (.of upd_same) ((r.cut l u).mono ex)) (rs.new hp)
      | str z =>
        cases rx
        exact .inr (.inl ⟨z, rfl, h.1, k _ st _ H h.2 .refl (.str _) rs⟩)
      | ref a =>
        cases rx
        obtain ⟨xs, e, h⟩ := h
        obtain ⟨vs, g, r⟩ := rs.rdL e
        refine .inr (.inr ⟨a, vs, rfl, g, fun p hp => ?_⟩)
        have ex : Ext H (upd H p (.lst (cutV vs l u))) := .upd_new hp
        exact k _ _ _ _ (h p (rs.fresh hp)) ex (.ref p) (rs.put ex ⟨_, upd_same, (r.cut l u).mono ex⟩)
      | _ => exact h.elim) he.pe hl.po hu.po) fun σ H Q ⟨env, st, Q0, re, rs, h, k⟩ => by
    refine lift_in re rs h fun x st1 x' H1 q1 e1 rx re1 rs1 => ?_
    refine ⟨env, st1, _, re1, rs1, q1, fun l st2 H2 q2 e2 rs2 => ?_⟩
    refine ⟨env, st2, _, re1.mono e2, rs2, q2, fun u st3 H3 q3 e3 rs3 => ?_⟩
    exact ⟨x, st3, Q0, rx.mono (e2.trans e3), rs3, q3, fun d st' v H' q e r s => k d st' v H' q (e1.trans (e2.trans (e3.trans e))) r s⟩⟩
/-- xs[::-1], a list -/
def mRev (m : ME) : ME := fun env st Q => m env st fun x st1 => ∃ a xs, x = .ref a ∧ rdL (st1 a) = some xs ∧ ∀ p, Nf st1 p → Q (.ref p) (put st1 p (.lst xs.reverse))
theorem de_rev {e : Expr} {m : ME} {k : Nat} {p1 p2 p3 pos : Pos} (he : DE X e m) : DE X (.Subscript e (.Slice none none (some (.UnaryOp .USub (.Constant (.int 1) k p1) p2)) p3) pos) (mRev m) :=
  ⟨pe_mono (pe_revL he.pe) fun σ H Q ⟨env, st, Q0, re, rs, h, k⟩ => lift_in re rs h fun x st1 x' H1 ⟨a, xs, e, e2, q⟩ ex rx re1 rs1 => by
    subst e
    cases rx
    obtain ⟨vs, g, r⟩ := rs1.rdL e2
    refine ⟨a, vs, rfl, g, fun p hp => ?_⟩
    have ex2 : Ext H1 (upd H1 p (.lst vs.reverse)) := .upd_new hp
    exact k _ _ _ _ (q p (rs1.fresh hp)) (ex.trans ex2) (.ref p) (rs1.put ex2 ⟨_, upd_same, r.reverse.mono ex2⟩)⟩
end

/-! ### methods of built-in types -/
abbrev MM := D → List D → Sto → DK → Prop
def liftM (K : PySem.W.Frag) (r : MM) : V → List V → Hp → VK → Prop := fun x xs H Q' => ∃ dx ds st Q, RelD K H dx x ∧ RelDs K H ds xs ∧ RelSto K H st ∧ r dx ds st Q ∧
  ∀ d st' v H', Q d st' → Ext H H' → RelD K H' d v → RelSto K H' st' → Q' v H'
structure DM (X : Cx) (id : String) (r : MM) : Prop where
  mt : MtR X id (liftM X.K r)
/-- the receiver is a list, a text -/
def isL (x : D) (st : Sto) : Prop := ∃ a xs, x = .ref a ∧ rdL (st a) = some xs
def isS (x : D) (_ : Sto) : Prop := ∃ z, x = .str z
def mMeth (ty : D → Sto → Prop) (r : MM) (mo : ME) (ma : MA) : ME := fun env st Q => mo env st fun x st1 => ty x st1 ∧ ma env st1 fun xs st2 => r x xs st2 Q
def Ty (K : PySem.W.Frag) (T : String) (ty : D → Sto → Prop) : Prop := ∀ (x : D) (v : V) (st : Sto) (H : Hp), ty x st → RelD K H x v → RelSto K H st → tyV K T v H
theorem ty_list {K : PySem.W.Frag} : Ty K "list" isL := fun x v st H ⟨a, xs, e, e2⟩ rx rs => by
  subst e
  cases rx
  obtain ⟨vs, g, r⟩ := rs.rdL e2
  exact .inl ⟨rfl, vs, g⟩
theorem ty_str {K : PySem.W.Frag} : Ty K "str" isS := fun x v st H ⟨z, e⟩ rx rs => by
  subst e
  cases rx
  exact rfl
section
variable {X : Cx} {o e : Expr} {es : List Expr} {mo : ME} {ma : MA} {name : Str} {apos cpos : Pos} {T id : String} {r : MM} {ty : D → Sto → Prop}
theorem de_m0 (pa : PlainAttrs T) (slot : Slot T name id) (hty : typeOf (.builtin id) = pure (.type "method_descriptor")) (tok : Ty X.K T ty) (hm : DM X id r) (ho : DE X o mo)
    (hbase : attributeBase o name X.env (eval o X.env) = eval o X.env := by rfl) (hline : (apos.endLine == cpos.line) = true := by rfl) : DE X (.Call (.Attribute o name apos) [] [] cpos) (mMeth ty r mo mNil) :=
  ⟨pe_mono (pe_bm0 pa slot hty hm.mt ho.pe hbase hline) fun σ H Q ⟨env, st, Q0, re, rs, h, k⟩ => lift_in re rs h fun x st1 x' H1 ⟨t, q⟩ ex rx re1 rs1 =>
    ⟨tok x x' st1 H1 t rx rs1, x, [], st1, Q0, rx, .nil, rs1, q, fun d st' v H' q e r s => k d st' v H' q (ex.trans e) r s⟩⟩
theorem de_m (pa : PlainAttrs T) (slot : Slot T name id) (hty : typeOf (.builtin id) = pure (.type "method_descriptor")) (tok : Ty X.K T ty) (hm : DM X id r) (ho : DE X o mo) (ha : DA X (e :: es) ma)
    (hbase : attributeBase o name X.env (eval o X.env) = eval o X.env := by rfl)
    (hfew : ((backTo cpos (starEach (e :: es) X.env)).all (fun x => !x.1) && (backToKw cpos (keywordEach [] X.env)).all (fun x => x.1.isSome)
      && decide ((e :: es).length + ([] : List Keyword).length + (if ([] : List Keyword).isEmpty then 0 else 1) < 30)) = true := by rfl)
    (hline : (apos.endLine == cpos.line) = true := by rfl) (hs : starEach (e :: es) X.env = (false, eval e X.env) :: starEach es X.env := by rfl) (hplain : (backTo cpos (starEach es X.env)).any (·.1) = false := by rfl) :
    DE X (.Call (.Attribute o name apos) (e :: es) [] cpos) (mMeth ty r mo ma) :=
  ⟨pe_mono (pe_bm pa slot hty hm.mt ho.pe ha.pa hbase hfew hline hs hplain) fun σ H Q ⟨env, st, Q0, re, rs, h, k⟩ => lift_in re rs h fun x st1 x' H1 ⟨t, q⟩ ex rx re1 rs1 =>
    ⟨tok x x' st1 H1 t rx rs1, liftA_in re1 rs1 q fun xs st2 xs' H2 q2 ex2 rxs re2 rs2 =>
      ⟨x, xs, st2, Q0, rx.mono ex2, rxs, rs2, q2, fun d st' v H' q e r s => k d st' v H' q (ex.trans (ex2.trans e)) r s⟩⟩⟩
def oAppend : MM
  | .ref a, [y], st, Q => ∃ xs, st a = some (.lst xs) ∧ xs.length < sizeLine ∧ Q .non (put st a (.lst (xs ++ [y])))
  | _, _, _, _ => False
def oPop : MM
  | .ref a, [], st, Q => ∃ xs y, st a = some (.lst xs) ∧ xs.getLast? = some y ∧ Q y (put st a (.lst xs.dropLast))
  | _, _, _, _ => False
def oExtend : MM
  | .ref a, [.ref b], st, Q => ∃ xs ys, st a = some (.lst xs) ∧ st b = some (.lst ys) ∧ xs.length + ys.length ≤ sizeLine ∧ Q .non (put st a (.lst (xs ++ ys)))
  | .ref a, [.tup ys], st, Q => ∃ xs, st a = some (.lst xs) ∧ xs.length + ys.length ≤ sizeLine ∧ Q .non (put st a (.lst (xs ++ ys)))
  | _, _, _, _ => False
theorem upd_mutL {H : Hp} {a : Addr} {vs : List V} {u : HO} (h : H a = some (.lst vs)) : Ext H (upd H a u) := .upd_mut (by rw [h]; trivial)
theorem dm_append : DM X "list.append" oAppend :=
  ⟨mtr_mono mt_append fun x xs H Q ⟨dx, ds, st, Q0, rx, rxs, rs, h, k⟩ => by
    unfold oAppend at h
    split at h
    · cases rx
      cases rxs with
      | cons ry t =>
        cases t
        obtain ⟨ys, e, hl, q⟩ := h
        obtain ⟨vs, g, r⟩ := rs _ _ e
        have ex : ∀ u, Ext H (upd H _ u) := fun u => upd_mutL g
        exact ⟨_, vs, _, rfl, rfl, g, by rw [← r.length]; exact hl, k _ _ _ _ q (ex _) .non (rs.put (ex _) ⟨_, upd_same, (r.append (.cons ry .nil)).mono (ex _)⟩)⟩
    · exact h.elim⟩
theorem dm_pop : DM X "list.pop" oPop :=
  ⟨mtr_mono mt_pop fun x xs H Q ⟨dx, ds, st, Q0, rx, rxs, rs, h, k⟩ => by
    unfold oPop at h
    split at h
    · cases rx
      cases rxs
      obtain ⟨ys, y, e, hl, q⟩ := h
      obtain ⟨vs, g, r⟩ := rs _ _ e
      rw [List.getLast?_eq_getElem?, r.length] at hl
      obtain ⟨v, hv, rv⟩ := r.get hl
      have ex : ∀ u, Ext H (upd H _ u) := fun u => upd_mutL g
      exact ⟨_, vs, v, rfl, rfl, g, hv, k _ _ _ _ q (ex _) (rv.mono (ex _)) (rs.put (ex _) ⟨_, upd_same, r.dropLast.mono (ex _)⟩)⟩
    · exact h.elim⟩
theorem list_extend_tup (l : Addr) (items : Array Value) (n : Nat) (b : Addr) (ob : Obj) (items2 : Array Value) (n2 : Nat) (hcb : ob.cls = .type "tuple") (hdb : ob.data = .seq items2 n2) (hs0 : ¬(!items.isEmpty && Builtin.List.listTooLong (items.size + items2.size)) = true) (hs1 : items.size ≤ sizeLine) (hs2 : items.size + items2.size ≤ sizeLine + 1) :
    Meets (Builtin.«list.extend» ⟨[.ref l, .ref b], []⟩) (fun _ R s => s.heap.get? l = some { cls := .type "list", dict := none, data := .seq items n, slots := #[] } ∧ s.heap.get? b = some ob ∧ R (.ok (.ret Value.none)) { s with heap := s.heap.update l (Obj.mapSeq fun x => x ++ items2), toks := s.toks }) :=
  .of_wp fun prog w A R s h => by
    obtain ⟨cls, dict, data, slots⟩ := ob
    simp only at hcb hdb
    subst hcb hdb
    obtain ⟨hp, g, d, tk, os⟩ := s; obtain ⟨hl, hb, h⟩ := h; have f1 := AutoSeq1.idx_int; have f2 := AutoSeq1.sub_tuple_tuple; have f3 := AutoSeq1.sub_list_list; have f4 := AutoSeq1.sub_tuple_list; have f5 := AutoSeq1.sub_list_tuple;
    have hz' : (items ++ items2).size ≤ sizeLine + 1 := by rw [Array.size_append]; exact hs2
    wp_walk using (wpAny_updateSeq hl rfl (hz := hs1) (_hz' := hz')), AutoSeq1.wpAny_loadPart' hl, AutoSeq1.wpAny_loadPart' hb; exact ⟨_, rfl, h⟩
theorem mt_extendT : MtR X "list.extend" (fun x vs H Q => ∃ l b xs zs, x = .ref l ∧ vs = [.ref b] ∧ H l = some (.lst xs) ∧ SqT X.K H b zs ∧ xs.length + zs.length ≤ sizeLine ∧ Q .non (upd H l (.lst (xs ++ zs)))) := by
  intro pins s σ H x vs v us Q I rx rv h
  obtain ⟨l, b, xs, zs, rfl, rfl, hH, hB, hz, q⟩ := h
  cases rx
  obtain ⟨u, rfl, ru⟩ := rv.one
  cases ru
  obtain ⟨z, its, n, r, hl, e⟩ := I.lstM hH
  obtain ⟨its2, r2, ⟨ob, e2, hc2, n2, hd2⟩, z2⟩ := I.tuple hB
  have hl2 := r2.length
  have hsz : its.toArray.size + its2.toArray.size ≤ sizeLine := by rw [List.size_toArray, List.size_toArray]; omega
  have hlong : ¬ (!its.toArray.isEmpty && Builtin.List.listTooLong (its.toArray.size + its2.toArray.size)) = true := by
    rw [notLongL hsz, Bool.and_false]
    exact Bool.false_ne_true
  refine call_meets F.slot_list_extend ⟨_, e, rfl⟩ F.entry_list_extend (F.args_list_extend_2 _ _)
    (list_extend_tup l its.toArray n b ob its2.toArray n2 hc2 hd2 hlong (by rw [List.size_toArray]; omega) (by omega)) ⟨e, e2, ?_⟩
  refine ⟨.non, _, I.lset (its' := its ++ its2) hH e (by simp) (r.append r2) ?_, rfl, q⟩
  rw [List.length_append]
  omega
theorem dm_extend : DM X "list.extend" oExtend :=
  ⟨mtr_mono (MtR.or (X := X) mt_extend mt_extendT) fun x xs H Q ⟨dx, ds, st, Q0, rx, rxs, rs, h, k⟩ => by
    unfold oExtend at h
    split at h
    · cases rx
      cases rxs with
      | cons ry t =>
        cases t
        cases ry
        obtain ⟨xs, ys, e, e2, hl, q⟩ := h
        obtain ⟨vs, g, r⟩ := rs _ _ e
        obtain ⟨ws, g2, r2⟩ := rs _ _ e2
        have ex : ∀ u, Ext H (upd H _ u) := fun u => upd_mutL g
        exact .inl ⟨_, _, vs, ws, rfl, rfl, g, g2, by rw [← r.length, ← r2.length]; exact hl, k _ _ _ _ q (ex _) .non (rs.put (ex _) ⟨_, upd_same, (r.append r2).mono (ex _)⟩)⟩
    · cases rx
      cases rxs with
      | cons ry t =>
        cases t
        obtain ⟨b, ws, rfl, g2, r2⟩ := ry.tup_of
        obtain ⟨xs, e, hl, q⟩ := h
        obtain ⟨vs, g, r⟩ := rs _ _ e
        have ex : ∀ u, Ext H (upd H _ u) := fun u => upd_mutL g
        exact .inr ⟨_, _, vs, ws, rfl, rfl, g, g2, by rw [← r.length, ← r2.length]; exact hl, k _ _ _ _ q (ex _) .non (rs.put (ex _) ⟨_, upd_same, (r.append r2).mono (ex _)⟩)⟩
    · exact h.elim⟩
/-- the texts of a list or tuple -/
def textsD : List D → Option (List Str)
  | [] => some []
  | .str x :: ds => (textsD ds).map (x :: ·)
  | _ :: _ => none
theorem texts_eq : ∀ {ds : List D} {xs : List Str}, textsD ds = some xs → ds = xs.map D.str
  | [], _, e => by simp only [textsD, Option.some.injEq] at e; subst e; rfl
  | .str x :: ds, _, e => by
    simp only [textsD, Option.map_eq_some_iff] at e
    obtain ⟨ys, e, rfl⟩ := e
    rw [texts_eq e]; rfl
  | .non :: _, _, e => by simp [textsD] at e
  | .bl _ :: _, _, e => by simp [textsD] at e
  | .int _ :: _, _, e => by simp [textsD] at e
  | .ty _ :: _, _, e => by simp [textsD] at e
  | .ref _ :: _, _, e => by simp [textsD] at e
  | .tup _ :: _, _, e => by simp [textsD] at e
theorem texts_map : ∀ (xs : List Str), textsD (xs.map D.str) = some xs
  | [] => rfl
  | x :: xs => by simp only [List.map_cons, textsD, texts_map xs, Option.map_some]
/-- what a sequence holds -/
def seqD (st : Sto) : D → Option (List D)
  | .tup xs => some xs
  | .ref a => rdL (st a)
  | _ => none
def oJoin : MM
  | .str a, [y], st, Q => ∃ ds ys, seqD st y = some ds ∧ textsD ds = some ys ∧ (ys.map (·.length)).sum + ys.length * a.length ≤ 16777216 ∧ Q (.str (Txt.join a ys)) st
  | _, _, _, _ => False
theorem seqD_rel {K : PySem.W.Frag} {H : Hp} {st : Sto} {y : D} {v : V} {ds : List D} (rs : RelSto K H st) (r : RelD K H y v) (e : seqD st y = some ds) : ∃ b ws, v = .ref b ∧ (SqL K H b ws ∨ SqT K H b ws) ∧ RelDs K H ds ws := by
  cases y with
  | tup zs =>
    simp only [seqD, Option.some.injEq] at e
    subst e
    obtain ⟨b, ws, rfl, g2, r2⟩ := r.tup_of
    exact ⟨b, ws, rfl, .inr g2, r2⟩
  | ref b =>
    cases r
    obtain ⟨ws, g2, r2⟩ := rs.rdL e
    exact ⟨b, ws, rfl, .inl g2, r2⟩
  | _ => simp [seqD] at e
theorem dm_join : DM X "str.join" oJoin :=
  ⟨mtr_mono mt_join fun x xs H Q ⟨dx, ds, st, Q0, rx, rxs, rs, h, k⟩ => by
    unfold oJoin at h
    split at h
    · cases rx
      cases rxs with
      | cons ry t =>
        cases t
        obtain ⟨ds, ys, e, e2, hl, q⟩ := h
        have e3 := texts_eq e2
        subst e3
        obtain ⟨b, ws, rfl, g, r2⟩ := seqD_rel rs ry e
        rw [r2.strs] at g
        exact ⟨_, b, ys, rfl, rfl, g, hl, k _ st _ H q .refl (.str _) rs⟩
    · exact h.elim⟩
def oFind : MM
  | .str a, [.str b], st, Q => Q (.int (Txt.find a b)) st
  | _, _, _, _ => False
theorem dm_find : DM X "str.find" oFind :=
  ⟨mtr_mono mt_find fun x xs H Q ⟨dx, ds, st, Q0, rx, rxs, rs, h, k⟩ => by
    unfold oFind at h
    split at h
    · cases rx
      cases rxs with
      | cons ry t =>
        cases t
        cases ry
        exact ⟨_, _, rfl, rfl, k _ st _ H h .refl (.int _) rs⟩
    · exact h.elim⟩
end

/-! ### built-in functions -/
section
variable {X : Cx}
def oLen : MC
  | [.str z], st, Q => z.length ≤ sizeLine ∧ Q (.int z.length) st
  | [.tup xs], st, Q => Q (.int xs.length) st
  | [.ref a], st, Q => (∃ xs, rdL (st a) = some xs ∧ Q (.int xs.length) st) ∨ (∃ kvs, st a = some (.dic kvs) ∧ Q (.int kvs.length) st)
  | _, _, _ => False
theorem dc_len : DC X (.builtin "len") oLen :=
  ⟨callr_mono (((call_len_str (X := X)).or call_len_seq).or call_lenD) fun xs H Q ⟨ds, st, Q0, rx, rs, h, k⟩ => by
    unfold oLen at h
    split at h
    · cases rx with
      | cons r t =>
        cases t; cases r
        exact .inl (.inl ⟨_, rfl, h.1, k _ st _ H h.2 .refl (.int _) rs⟩)
    · cases rx with
      | cons r t =>
        cases t
        obtain ⟨a, vs, rfl, g, r⟩ := r.tup_of
        exact .inl (.inr ⟨a, vs, rfl, .inr g, by rw [← r.length]; exact k _ st _ H h .refl (.int _) rs⟩)
    · cases rx with
      | cons r t =>
        cases t; cases r
        rcases h with ⟨ys, e, h⟩ | ⟨kvs, e, h⟩
        · obtain ⟨vs, g, r⟩ := rs.rdL e
          exact .inl (.inr ⟨_, vs, rfl, .inl g, by rw [← r.length]; exact k _ st _ H h .refl (.int _) rs⟩)
        · obtain ⟨ws, g, r⟩ := rs _ _ e
          exact .inr ⟨_, ws, rfl, g, by rw [r.length]; exact k _ st _ H h .refl (.int _) rs⟩
    · exact h.elim⟩
def oAbs : MC
  | [.int i], st, Q => Q (.int (if i < 0 then -i else i)) st
  | _, _, _ => False
theorem dc_abs : DC X (.builtin "abs") oAbs :=
  ⟨callr_mono call_abs fun xs H Q ⟨ds, st, Q0, rx, rs, h, k⟩ => by
    unfold oAbs at h
    split at h
    · cases rx with
      | cons r t =>
        cases t; cases r
        exact ⟨_, rfl, k _ st _ H h .refl (.int _) rs⟩
    · exact h.elim⟩
def oInt : MC
  | [.int i], st, Q => Q (.int i) st
  | [.bl b], st, Q => Q (.int (if b then 1 else 0)) st
  | _, _, _ => False
theorem dc_int : DC X (.type "int") oInt :=
  ⟨callr_mono call_int1 fun xs H Q ⟨ds, st, Q0, rx, rs, h, k⟩ => by
    unfold oInt at h
    split at h
    · cases rx with
      | cons r t =>
        cases t; cases r
        exact .inl ⟨_, rfl, k _ st _ H h .refl (.int _) rs⟩
    · cases rx with
      | cons r t =>
        cases t; cases r
        exact .inr ⟨_, rfl, k _ st _ H h .refl (.int _) rs⟩
    · exact h.elim⟩
def oMax : MC
  | [.int i, .int j], st, Q => Q (.int (if j > i then j else i)) st
  | _, _, _ => False
theorem dc_max (hc : X.calm = true) : DC X (.builtin "max") oMax :=
  ⟨callr_mono (call_max2 hc) fun xs H Q ⟨ds, st, Q0, rx, rs, h, k⟩ => by
    unfold oMax at h
    split at h
    · cases rx with
      | cons r t =>
        cases t with
        | cons r2 t =>
          cases t; cases r; cases r2
          exact ⟨_, _, rfl, k _ st _ H h .refl (.int _) rs⟩
    · exact h.elim⟩
def oMin : MC
  | [.int i, .int j], st, Q => Q (.int (if j < i then j else i)) st
  | _, _, _ => False
theorem dc_min (hc : X.calm = true) : DC X (.builtin "min") oMin :=
  ⟨callr_mono (call_min2 hc) fun xs H Q ⟨ds, st, Q0, rx, rs, h, k⟩ => by
    unfold oMin at h
    split at h
    · cases rx with
      | cons r t =>
        cases t with
        | cons r2 t =>
          cases t; cases r; cases r2
          exact ⟨_, _, rfl, k _ st _ H h .refl (.int _) rs⟩
    · exact h.elim⟩
def oTuple : MC
  | [.tup xs], st, Q => Q (.tup xs) st
  | [.ref a], st, Q => ∃ xs, rdL (st a) = some xs ∧ Q (.tup xs) st
  | _, _, _ => False
theorem dc_tuple : DC X (.type "tuple") oTuple :=
  ⟨callr_mono call_tuple_of fun xs H Q ⟨ds, st, Q0, rx, rs, h, k⟩ => by
    unfold oTuple at h
    split at h
    · cases rx with
      | cons r t =>
        cases t
        obtain ⟨a, vs, rfl, g, r2⟩ := id r.tup_of
        exact ⟨a, vs, rfl, .inr ⟨g, k _ st _ H h .refl r rs⟩⟩
    · cases rx with
      | cons r t =>
        cases t; cases r
        obtain ⟨ys, e, h⟩ := h
        obtain ⟨vs, g, r⟩ := rs.rdL e
        refine ⟨_, vs, rfl, .inl ⟨g, fun p hp => ?_⟩⟩
        have ex : Ext H (upd H p (.tup vs)) := .upd_new hp
        exact k _ st _ _ h ex (.tup (.of upd_same) (r.mono ex)) (rs.new hp)
    · exact h.elim⟩
/-- the signs of a text, each by itself -/
def signsD (z : Str) : List D := z.cps.toList.map fun c => D.str ⟨#[c]⟩
def oList : MC
  | [.tup xs], st, Q => ∀ p, Nf st p → Q (.ref p) (put st p (.lst xs))
  | [.ref a], st, Q => ∃ xs, rdL (st a) = some xs ∧ ∀ p, Nf st p → Q (.ref p) (put st p (.lst xs))
  | [.str z], st, Q => z.length ≤ sizeLine ∧ ∀ p, Nf st p → Q (.ref p) (put st p (.lst (signsD z)))
  | _, _, _ => False
theorem call_list_strV (hc : X.calm = true) : CallR X (.type "list") (fun xs H Q => ∃ z : Str, xs = [.str z] ∧ z.length ≤ sizeLine ∧ ∀ l, H l = none → Q (.ref l) (upd H l (.lst (z.cps.toList.map fun c => V.str ⟨#[c]⟩)))) := by
  intro pins s σ H xs us Q I rx h
  obtain ⟨z, rfl, hz, q⟩ := h
  obtain ⟨u, rfl, ru⟩ := vals1 rx
  obtain ⟨t, rfl⟩ := ru
  refine call_list_str (I.ok.hd hc) z t (hn := hz) fun h' tk acc' c' hk hS' hacc => ?_
  have hf : H s.heap.objs.size = none := I.fresh
  have hv : Vals (z.cps.toList.map fun c => V.str ⟨#[c]⟩) acc'.toList := by
    refine vals_of_at ?_ ?_
    · have := hacc.1
      simp only [List.length_map, Array.length_toList]
      simpa using this.symm
    · intro j x u hx hu
      rw [List.getElem?_map] at hx
      obtain ⟨c, u', hc, rfl⟩ := hacc.2 j u (by simpa using hu)
      have hc' : z.cps.toList[j]? = some c := by simpa using hc
      rw [hc'] at hx
      cases hx
      exact ⟨_, rfl⟩
  refine ⟨.ref s.heap.objs.size, _, I.laid (a := s.heap.objs.size) (o := .lst (z.cps.toList.map fun c => V.str ⟨#[c]⟩)) (t' := tk) hk (Nat.le_refl _) ⟨?_, acc'.toList, c', hv, by simpa using hS'⟩, rfl, q _ hf⟩
  simpa [Str.length] using hz
theorem dc_list (hc : X.calm = true) : DC X (.type "list") oList :=
  ⟨callr_mono ((call_list_of (X := X)).or (call_list_strV hc)) fun xs H Q ⟨ds, st, Q0, rx, rs, h, k⟩ => by
    unfold oList at h
    split at h
    · cases rx with
      | cons r t =>
        cases t
        obtain ⟨a, vs, rfl, g, r⟩ := r.tup_of
        refine .inl ⟨a, vs, rfl, .inr g, fun p hp => ?_⟩
        have ex : Ext H (upd H p (.lst vs)) := .upd_new hp
        exact k _ _ _ _ (h p (rs.fresh hp)) ex (.ref p) (rs.put ex ⟨_, upd_same, r.mono ex⟩)
    · cases rx with
      | cons r t =>
        cases t; cases r
        obtain ⟨ys, e, h⟩ := h
        obtain ⟨vs, g, r⟩ := rs.rdL e
        refine .inl ⟨_, vs, rfl, .inl g, fun p hp => ?_⟩
        have ex : Ext H (upd H p (.lst vs)) := .upd_new hp
        exact k _ _ _ _ (h p (rs.fresh hp)) ex (.ref p) (rs.put ex ⟨_, upd_same, r.mono ex⟩)
    · cases rx with
      | cons r t =>
        cases t; cases r
        refine .inr ⟨_, rfl, h.1, fun p hp => ?_⟩
        have ex : ∀ u, Ext H (upd H p u) := fun u => .upd_new hp
        refine k _ _ _ _ (h.2 p (rs.fresh hp)) (ex _) (.ref p) (rs.put (ex _) ⟨_, upd_same, ?_⟩)
        have go : ∀ (H' : Hp) (l : List Nat), RelDs X.K H' (l.map fun c => D.str ⟨#[c]⟩) (l.map fun c => V.str ⟨#[c]⟩) := by
          intro H' l
          induction l with
          | nil => exact .nil
          | cons c l ih => exact .cons (.str _) ih
        exact go _ _
    · exact h.elim⟩
end
end L2.DL

namespace L2.DL
open PySem PySem.Spec PyProof.Rows

/-! ### statements -/
def sNext : MS := fun D env st => D.nx env st
def sSeq (t u : MS) : MS := fun D env st => t { D with nx := u D } env st
def sBreak : MS := fun D env st => D.bk env st
def sCont : MS := fun D env st => D.ct env st
def sDrop (m : ME) : MS := fun D env st => m env st fun _ st1 => D.nx env st1
def sRet (m : ME) : MS := fun D env st => m env st D.rt
def sRetN : MS := fun D _ st => D.rt .non st
def sIf (c : MT) (t u : MS) : MS := fun D env st => c env st fun b st1 => if b = true then t D env st1 else u D env st1
abbrev MG := D → Env → Sto → (Env → Sto → Prop) → Prop
abbrev MGs := List D → Env → Sto → (Env → Sto → Prop) → Prop
def gN (i : Nat) : MG := fun d env st Q => Q (env.set i (some d)) st
def gNil : MGs := fun ds env st Q => ds = [] ∧ Q env st
def gCons (g : MG) (gs : MGs) : MGs := fun ds env st Q => ∃ d r, ds = d :: r ∧ g d env st fun env' st' => gs r env' st' Q
def gTup (n : Nat) (gs : MGs) : MG := fun d env st Q => ∃ ds, d = .tup ds ∧ ds.length = n ∧ gs ds env st Q
/-- o[i] = v, by values -/
abbrev M3 := D → D → D → Sto → (Sto → Prop) → Prop
def gSub (mo mi : ME) (r : M3) : MG := fun d env st Q => mo env st fun o st1 => mi env st1 fun i st2 => r o i d st2 fun st3 => Q env st3
def sAsg (m : ME) (g : MG) : MS := fun D env st => m env st fun d st1 => g d env st1 D.nx
def sPar (i j : Nat) (m : MA) : MS := fun D env st => m env st fun ds st1 => ∃ v w, ds = [v, w] ∧ D.nx ((env.set i (some v)).set j (some w)) st1
def sPar3 (i j l : Nat) (m : MA) : MS := fun D env st => m env st fun ds st1 => ∃ u v w, ds = [u, v, w] ∧ D.nx (((env.set i (some u)).set j (some v)).set l (some w)) st1
def sAug (i : Nat) (m : ME) (r : M2) : MS := fun D env st => ∃ x, env[i]? = some (some x) ∧ m env st fun y st1 => r x y st1 fun z st2 => D.nx (env.set i (some z)) st2

def liftG (K : PySem.W.Frag) (g : MG) : TG := fun v σ H Q' => ∃ d env st Q, RelD K H d v ∧ RelE K H env σ ∧ RelSto K H st ∧ g d env st Q ∧
  ∀ env' st' σ' H', Q env' st' → Ext H H' → RelE K H' env' σ' → RelSto K H' st' → Q' σ' H'
def liftGs (K : PySem.W.Frag) (g : MGs) : TGs := fun vs σ H Q' => ∃ ds env st Q, RelDs K H ds vs ∧ RelE K H env σ ∧ RelSto K H st ∧ g ds env st Q ∧
  ∀ env' st' σ' H', Q env' st' → Ext H H' → RelE K H' env' σ' → RelSto K H' st' → Q' σ' H'
structure DG (X : Cx) (t : Expr) (g : MG) : Prop where
  pg : PG X t (liftG X.K g)
structure DGs (X : Cx) (t : List Expr) (g : MGs) : Prop where
  pgs : PGs X t (liftGs X.K g)
theorem pg_mono {X : Cx} {e : Expr} {t t' : TG} (h : PG X e t) (k : ∀ v σ H Q, t' v σ H Q → t v σ H Q) : PG X e t' := ⟨fun pins s σ H v u Q I r hw => h.run pins s σ H v u Q I r (k _ _ _ _ hw)⟩
theorem pgs_mono {X : Cx} {e : List Expr} {t t' : TGs} (h : PGs X e t) (k : ∀ v σ H Q, t' v σ H Q → t v σ H Q) : PGs X e t' := ⟨fun pins s σ H v u Q I r hw => h.run pins s σ H v u Q I r (k _ _ _ _ hw)⟩

section
variable {X : Cx} {st : Stmt} {rest : List Stmt} {t u : MS} {e : Expr} {m : ME} {pos : Pos}
theorem dss_nil : DSs X [] sNext := ⟨pss_mono pss_nil fun D σ H ⟨env, st, D0, re, rs, h, k, _⟩ => k env st σ H h .refl re rs⟩
theorem dss_cons (h1 : DS X st t) (h2 : DSs X rest u) : DSs X (st :: rest) (sSeq t u) :=
  ⟨pss_mono (pss_cons h1.ps h2.pss) fun D σ H ⟨env, st, D0, re, rs, h, k1, k2, k3, k4⟩ => by
    refine ⟨env, st, { D0 with nx := u D0 }, re, rs, h, fun env' st' σ' H' q e re' rs' => ?_, k2, k3, k4⟩
    exact ⟨env', st', D0, re', rs', q, fun a b c d q e2 => k1 a b c d q (e.trans e2), fun a b c d q e2 => k2 a b c d q (e.trans e2), fun a b c d q e2 => k3 a b c d q (e.trans e2), fun a b c d q e2 => k4 a b c d q (e.trans e2)⟩⟩
theorem dss_one (h1 : DS X st t) : DSs X [st] t := ⟨pss_one h1.ps⟩
theorem ds_pass : DS X (.Pass pos) sNext := ⟨ps_mono ps_pass fun D σ H ⟨env, st, D0, re, rs, h, k, _⟩ => k env st σ H h .refl re rs⟩
theorem ds_break : DS X (.Break pos) sBreak := ⟨ps_mono ps_break fun D σ H ⟨env, st, D0, re, rs, h, k1, k2, k3, k4⟩ => k3 env st σ H h .refl re rs⟩
theorem ds_continue : DS X (.Continue pos) sCont := ⟨ps_mono ps_continue fun D σ H ⟨env, st, D0, re, rs, h, k1, k2, k3, k4⟩ => k4 env st σ H h .refl re rs⟩
theorem ds_expr (he : DE X e m) (hs : swapsWith e none pos.line X.env = pure false := by rfl) : DS X (.Expr e pos) (sDrop m) :=
  ⟨ps_mono (ps_expr he.pe hs) fun D σ H ⟨env, st, D0, re, rs, h, k1, _⟩ => lift_in re rs h fun d st1 v H1 q e r re1 rs1 => k1 env st1 σ H1 q e re1 rs1⟩
theorem ds_ret (he : DE X e m) : DS X (.Return (some e) pos) (sRet m) :=
  ⟨ps_mono (ps_ret he.pe) fun D σ H ⟨env, st, D0, re, rs, h, k1, k2, _⟩ => ⟨env, st, D0.rt, re, rs, h, k2⟩⟩
theorem ds_retN : DS X (.Return none pos) sRetN :=
  ⟨ps_mono ps_retN fun D σ H ⟨env, st, D0, re, rs, h, k1, k2, _⟩ => k2 _ st _ H h .refl .non rs⟩
theorem ds_if {c : Expr} {a b : List Stmt} {tc : MT} (hc : DT X c tc) (ha : DSs X a t) (hb : DSs X b u) : DS X (.If c a b pos) (sIf tc t u) :=
  ⟨ps_mono (ps_if hc.pt ha.pss hb.pss) fun D σ H ⟨env, st, D0, re, rs, h, k1, k2, k3, k4⟩ => by
    refine liftT_in re rs h fun c st1 H1 q e re1 rs1 => ?_
    cases c with
    | true => exact ⟨env, st1, D0, re1, rs1, q, fun a b c d q e2 => k1 a b c d q (e.trans e2), fun a b c d q e2 => k2 a b c d q (e.trans e2), fun a b c d q e2 => k3 a b c d q (e.trans e2), fun a b c d q e2 => k4 a b c d q (e.trans e2)⟩
    | false => exact ⟨env, st1, D0, re1, rs1, q, fun a b c d q e2 => k1 a b c d q (e.trans e2), fun a b c d q e2 => k2 a b c d q (e.trans e2), fun a b c d q e2 => k3 a b c d q (e.trans e2), fun a b c d q e2 => k4 a b c d q (e.trans e2)⟩⟩
/-! targets -/
theorem dg_name {i : Nat} {x : Str} (hN : X.N.Nodup) (hi : X.N[i]? = some x) (hx : Loc X.env.scope x) (hf : X.fn x = true ∨ X.env.scope.names.lookup x = some .local := by first | exact .inl rfl | exact .inr rfl | assumption) : DG X (.Name x pos) (gN i) :=
  ⟨pg_mono (pg_name hN hi hx hf) fun v σ H Q ⟨d, env, st, Q0, r, re, rs, h, k⟩ => k _ st _ H h .refl (re.set r i) rs⟩
theorem dgs_nil : DGs X [] gNil := ⟨pgs_mono pgs_nil fun vs σ H Q ⟨ds, env, st, Q0, r, re, rs, ⟨e, h⟩, k⟩ => by
  subst e
  cases r
  exact ⟨rfl, k env st σ H h .refl re rs⟩⟩
theorem dgs_cons {es : List Expr} {g : MG} {gs : MGs} (h1 : DG X e g) (h2 : DGs X es gs)
    (hs : (assignEach (e :: es) X.env).map (·.2) = assign e X.env :: (assignEach es X.env).map (·.2) := by rfl) : DGs X (e :: es) (gCons g gs) :=
  ⟨pgs_mono (pgs_cons h1.pg h2.pgs hs) fun vs σ H Q ⟨ds, env, st, Q0, r, re, rs, ⟨d, dr, e, h⟩, k⟩ => by
    subst e
    cases r with
    | cons r t =>
      refine ⟨_, _, rfl, d, env, st, _, r, re, rs, h, fun env' st' σ' H' q e re' rs' => ?_⟩
      exact ⟨dr, env', st', Q0, t.mono e, re', rs', q, fun a b c d q e2 => k a b c d q (e.trans e2)⟩⟩
theorem dg_tup {es : List Expr} {k : Nat} {gs : MGs} {n : Nat} (hc : X.calm = true) (h : DGs X es gs)
    (hn : (assignEach es X.env).length = n := by rfl) (hst : (assignEach es X.env).findIdx? (·.1) = none := by rfl) : DG X (.Tuple es k pos) (gTup n gs) :=
  ⟨pg_mono (pg_tup hc h.pgs hn hst) fun v σ H Q ⟨d, env, st, Q0, r, re, rs, ⟨ds, e, hl, h⟩, k⟩ => by
    subst e
    obtain ⟨a, vs, rfl, g, r2⟩ := r.tup_of
    exact ⟨a, vs, rfl, g, by rw [← r2.length]; exact hl, ds, env, st, Q0, r2, re, rs, h, k⟩⟩
/-- setting an item -/
def lift3 (K : PySem.W.Frag) (r : M3) : TSet := fun o i v H Q' => ∃ dO dI d st Q, RelD K H dO o ∧ RelD K H dI i ∧ RelD K H d v ∧ RelSto K H st ∧ r dO dI d st Q ∧ ∀ st' H', Q st' → Ext H H' → RelSto K H' st' → Q' H'
structure DSet (X : Cx) (r : M3) : Prop where
  set : PSet X (lift3 X.K r)
def putD {κ : Type} [DecidableEq κ] (kvs : List (κ × D)) (k : κ) (v : D) : List (κ × D) :=
  if kvs.any (fun kv => decide (kv.1 = k)) = true then kvs.map (fun kv => if kv.1 = k then (kv.1, v) else kv) else kvs ++ [(k, v)]
def oSet : M3
  | .ref a, y, v, st, Q => (∃ xs i j, st a = some (.lst xs) ∧ y = .int i ∧ ixN xs.length i = some j ∧ Q (put st a (.lst (xs.set j v)))) ∨
      (∃ kvs k, st a = some (.dic kvs) ∧ keyD y = some k ∧ kvs.length < sizeLine ∧ Q (put st a (.dic (putD kvs k v))))
  | _, _, _, _, _ => False
theorem RelK.any {κ : Type} [DecidableEq κ] {K : PySem.W.Frag} {H : Hp} (k : κ) : ∀ {ds : List (κ × D)} {vs : List (κ × V)}, RelK K H ds vs → (vs.any fun kv => decide (kv.1 = k)) = ds.any fun kv => decide (kv.1 = k)
  | _, _, .nil => rfl
  | _, _, .cons r t => by rw [List.any_cons, List.any_cons, RelK.any k t]
theorem RelK.map {κ : Type} [DecidableEq κ] {K : PySem.W.Frag} {H : Hp} (k : κ) {d : D} {v : V} (rv : RelD K H d v) : ∀ {ds : List (κ × D)} {vs : List (κ × V)}, RelK K H ds vs →
    RelK K H (ds.map fun kv => if kv.1 = k then (kv.1, d) else kv) (vs.map fun kv => if kv.1 = k then (kv.1, v) else kv)
  | _, _, .nil => .nil
  | _, _, .cons (k := k') r t => by
    rw [List.map_cons, List.map_cons]
    by_cases e : k' = k
    · rw [if_pos e, if_pos e]; exact .cons rv (RelK.map k rv t)
    · rw [if_neg e, if_neg e]; exact .cons r (RelK.map k rv t)
theorem RelK.snoc {κ : Type} {K : PySem.W.Frag} {H : Hp} (k : κ) {d : D} {v : V} (rv : RelD K H d v) : ∀ {ds : List (κ × D)} {vs : List (κ × V)}, RelK K H ds vs → RelK K H (ds ++ [(k, d)]) (vs ++ [(k, v)])
  | _, _, .nil => .cons rv .nil
  | _, _, .cons r t => .cons r (RelK.snoc k rv t)
theorem RelK.put {κ : Type} [DecidableEq κ] {K : PySem.W.Frag} {H : Hp} (k : κ) {d : D} {v : V} (rv : RelD K H d v) {ds : List (κ × D)} {vs : List (κ × V)} (h : RelK K H ds vs) : RelK K H (putD ds k d) (putK vs k v) := by
  unfold putD putK
  rw [h.any k]
  split
  · exact h.map k rv
  · exact h.snoc k rv
theorem set_dict (hu : X.A.units + 1 < cLine) : PSet X (fun o i v H Q => ∃ a H', o = .ref a ∧ DPut H a i v H' ∧ Q H') := by
  intro pins s σ H o i v ov iv u Q I ro ri rv h
  obtain ⟨a, H', rfl, g, q⟩ := h
  obtain rfl : ov = Value.ref a := ro
  exact d_setItem hu I g ri rv fun s' I' => ⟨H', I', q⟩
theorem pset_mono {r r' : TSet} (h : PSet X r) (k : ∀ o i v H Q, r' o i v H Q → r o i v H Q) : PSet X r' := fun pins s σ H o i v ov iv u Q I ro ri rv q => h pins s σ H o i v ov iv u Q I ro ri rv (k _ _ _ _ _ q)
theorem pset_or {r r' : TSet} (h : PSet X r) (h' : PSet X r') : PSet X (fun o i v H Q => r o i v H Q ∨ r' o i v H Q) := fun pins s σ H o i v ov iv u Q I ro ri rv q => by
  rcases q with q | q
  · exact h pins s σ H o i v ov iv u Q I ro ri rv q
  · exact h' pins s σ H o i v ov iv u Q I ro ri rv q
theorem dset_all (hu : X.A.units + 1 < cLine) : DSet X oSet :=
  ⟨pset_mono (pset_or set_list (set_dict hu)) fun o i v H Q ⟨dO, dI, d, st, Q0, ro, ri, rv, rs, h, k⟩ => by
    cases dO <;> simp only [oSet] at h <;> try exact h.elim
    cases ro
    rcases h with ⟨xs, j, n, e1, rfl, e2, q⟩ | ⟨kvs, kk, e1, e2, hl, q⟩
    · cases ri
      obtain ⟨vs, g, r⟩ := rs _ _ e1
      have ex : ∀ u, Ext H (upd H _ u) := fun u => upd_mutL g
      exact .inl ⟨_, vs, j, n, rfl, rfl, g, by rw [← r.length]; exact e2, k _ _ q (ex _) (rs.put (ex _) ⟨_, upd_same, (r.set rv n).mono (ex _)⟩)⟩
    · obtain ⟨ws, g, r⟩ := rs _ _ e1
      have ek := key_rel ri e2
      subst ek
      have ex : ∀ u, Ext H (upd H _ u) := fun u => .upd_mut (by rw [g]; trivial)
      exact .inr ⟨_, _, rfl, DPut.k g (by rw [r.length]; exact hl), k _ _ q (ex _) (rs.put (ex _) ⟨_, upd_same, (r.put kk rv).mono (ex _)⟩)⟩⟩
theorem dg_sub {o i : Expr} {mo mi : ME} {r : M3} (ho : DE X o mo) (hi : DE X i mi) (hs : DSet X r)
    (ha : ∀ v, assign (.Subscript o i pos) X.env v = (do
      let ov ← holding [v] (eval o X.env)
      let iv ← holding [v, ov] (eval i X.env)
      standAt pos
      holding [v, ov, iv] (setItem ov iv v)
      release [v, ov, iv] []) := by intro _; rfl) : DG X (.Subscript o i pos) (gSub mo mi r) :=
  ⟨pg_mono (pg_sub ho.pe hi.pe hs.set ha) fun v σ H Q ⟨d, env, st, Q0, rd, re, rs, h, k⟩ => by
    refine lift_in re rs h fun x st1 x' H1 q1 e1 rx re1 rs1 => ?_
    refine lift_in re1 rs1 q1 fun y st2 y' H2 q2 e2 ry re2 rs2 => ?_
    exact ⟨x, y, d, st2, _, rx.mono e2, ry, rd.mono (e1.trans e2), rs2, q2, fun st3 H3 q3 e3 rs3 => k env st3 σ H3 q3 (e1.trans (e2.trans e3)) (re2.mono e3) rs3⟩⟩
theorem ds_asg {tg : Expr} {g : MG} (he : DE X e m) (hg : DG X tg g) (hs : swapsWithSole [tg] e pos.line X.env = pure false := by rfl) (hw : swappedStores [tg] e X.env = pure none := by rfl)
    (h1 : (assignEach [tg] X.env).map (·.2) = [assign tg X.env] := by rfl) : DS X (.Assign [tg] e pos) (sAsg m g) :=
  ⟨ps_mono (ps_asg he.pe hg.pg hs hw h1) fun D σ H ⟨env, st, D0, re, rs, h, k1, _⟩ => by
    refine lift_in re rs h fun x st1 x' H1 q1 e1 rx re1 rs1 => ?_
    exact ⟨x, env, st1, _, rx, re1, rs1, q1, fun env' st' σ' H' q e re' rs' => k1 env' st' σ' H' q (e1.trans e) re' rs'⟩⟩
theorem ds_set {i : Nat} {x : Str} {pos' : Pos} (hN : X.N.Nodup) (hi : X.N[i]? = some x) (hx : Loc X.env.scope x) (he : DE X e m) (hs : swapsWith e (some (.Name x pos')) pos.line X.env = pure false := by rfl) (hf : X.fn x = true ∨ X.env.scope.names.lookup x = some .local := by first | exact .inl rfl | exact .inr rfl | assumption) :
    DS X (.Assign [.Name x pos'] e pos) (sAsg m (gN i)) :=
  ⟨ps_mono (ps_set hN hi hx he.pe hs hf) fun D σ H ⟨env, st, D0, re, rs, h, k1, _⟩ => by
    refine lift_in re rs h fun x st1 x' H1 q1 e1 rx re1 rs1 => ?_
    exact k1 _ st1 _ H1 q1 e1 (re1.set rx i) rs1⟩
theorem ds_par {i j : Nat} {x y : Str} {a b : Expr} {ma : MA} {px py pt : Pos} {kt k2 pt2} (hc : X.calm = true) (hN : X.N.Nodup) (hi : X.N[i]? = some x) (hj : X.N[j]? = some y) (hij : i ≠ j)
    (hx : X.env.scope.names.lookup x = some .local) (hy : X.env.scope.names.lookup y = some .local) (ha : DA X [a, b] ma)
    (hw : swappedStores [.Tuple [.Name x px, .Name y py] kt pt] (.Tuple [a, b] k2 pt2) X.env = pure (some [x, y]))
    (hs : swapsWithSole [.Tuple [.Name x px, .Name y py] kt pt] (.Tuple [a, b] k2 pt2) pos.line X.env = pure false := by rfl) :
    DS X (.Assign [.Tuple [.Name x px, .Name y py] kt pt] (.Tuple [a, b] k2 pt2) pos) (sPar i j ma) :=
  ⟨ps_mono (ps_par hc hN hi hj hij hx hy ha.pa hw hs) fun D σ H ⟨env, st, D0, re, rs, h, k1, _⟩ => by
    refine liftA_in re rs h fun xs st1 xs' H1 ⟨v, w, e, q⟩ e1 rx re1 rs1 => ?_
    subst e
    cases rx with
    | cons r1 t =>
      cases t with
      | cons r2 t =>
        cases t
        exact ⟨_, _, rfl, k1 _ st1 _ H1 q e1 ((re1.set r1 i).set r2 j) rs1⟩⟩
theorem ds_par3 {i j l : Nat} {x y z : Str} {a b c : Expr} {ma : MA} {px py pz pt : Pos} {kt k2 pt2} (hc : X.calm = true) (hN : X.N.Nodup) (hi : X.N[i]? = some x) (hj : X.N[j]? = some y) (hl : X.N[l]? = some z) (hij : i ≠ j) (hil : i ≠ l) (hjl : j ≠ l)
    (hx : X.env.scope.names.lookup x = some .local) (hy : X.env.scope.names.lookup y = some .local) (hz : X.env.scope.names.lookup z = some .local) (ha : DA X [a, b, c] ma)
    (hw : swappedStores [.Tuple [.Name x px, .Name y py, .Name z pz] kt pt] (.Tuple [a, b, c] k2 pt2) X.env = pure (some [x, y, z]))
    (hs : swapsWithSole [.Tuple [.Name x px, .Name y py, .Name z pz] kt pt] (.Tuple [a, b, c] k2 pt2) pos.line X.env = pure false := by rfl) :
    DS X (.Assign [.Tuple [.Name x px, .Name y py, .Name z pz] kt pt] (.Tuple [a, b, c] k2 pt2) pos) (sPar3 i j l ma) :=
  ⟨ps_mono (ps_par3 hc hN hi hj hl hij hil hjl hx hy hz ha.pa hw hs) fun D σ H ⟨env, st, D0, re, rs, h, k1, _⟩ => by
    refine liftA_in re rs h fun xs st1 xs' H1 ⟨u, v, w, e, q⟩ e1 rx re1 rs1 => ?_
    subst e
    cases rx with
    | cons r1 t =>
      cases t with
      | cons r2 t =>
        cases t with
        | cons r3 t =>
          cases t
          exact ⟨_, _, _, rfl, k1 _ st1 _ H1 q e1 (((re1.set r1 i).set r2 j).set r3 l) rs1⟩⟩
/-- name op= e -/
theorem ds_aug {i : Nat} {x : Str} {op : Operator} {r : M2} {pos' : Pos} (hN : X.N.Nodup) (hi : X.N[i]? = some x) (hx : Loc X.env.scope x) (he : DE X e m) (ho : DO2 X (inplaceOp op) r) (hf : X.fn x = true ∨ X.env.scope.names.lookup x = some .local := by first | exact .inl rfl | exact .inr rfl | assumption) :
    DS X (.AugAssign (.Name x pos') op e pos) (sAug i m r) :=
  ⟨ps_mono (ps_aug (ti := lift2 X.K r) hN hi hx he.pe (fun pins s σ H x y v u Q I rx ry q => ho.op pins s σ H x y v u Q I rx ry q) hf) fun D σ H ⟨env, st, D0, re, rs, ⟨d, ed, h⟩, k1, _⟩ => by
    obtain ⟨v, ev, rv⟩ := re.get ed
    refine ⟨v, ev, lift_in re rs h fun y st1 y' H1 q1 e1 ry re1 rs1 => ?_⟩
    exact ⟨d, y, st1, _, rv.mono e1, ry, rs1, q1, fun z st2 z' H2 q2 e2 rz rs2 => k1 _ st2 _ H2 q2 (e1.trans e2) ((re1.mono e2).set rz i) rs2⟩⟩
def oIAdd : M2
  | .int i, .int j, st, Q => Q (.int (i + j)) st
  | _, _, _, _ => False
theorem do_iadd : DO2 X (inplaceOp .Add) oIAdd :=
  ⟨opr_mono iop_add fun x y H Q ⟨dx, dy, st, Q0, rx, ry, rs, h, k⟩ => by
    cases dx <;> cases dy <;> simp only [oIAdd] at h <;> try exact h.elim
    cases rx; cases ry
    exact ⟨_, _, rfl, rfl, k _ st _ H h .refl (.int _) rs⟩⟩
def oISub : M2
  | .int i, .int j, st, Q => Q (.int (i - j)) st
  | _, _, _, _ => False
theorem do_isub : DO2 X (inplaceOp .Sub) oISub :=
  ⟨opr_mono iop_sub fun x y H Q ⟨dx, dy, st, Q0, rx, ry, rs, h, k⟩ => by
    cases dx <;> cases dy <;> simp only [oISub] at h <;> try exact h.elim
    cases rx; cases ry
    exact ⟨_, _, rfl, rfl, k _ st _ H h .refl (.int _) rs⟩⟩

/-! ### loops -/
/-- while: W by a measure, slots, store -/
def sWhile (c : MT) (b : MS) : MS := fun D env st => ∃ W : Nat → Env → Sto → Prop, (∃ m, W m env st) ∧ ∀ m env st, W m env st →
  c env st fun t st1 => if t = true then b { nx := fun env' st' => ∃ m', m' < m ∧ W m' env' st', rt := D.rt, bk := D.nx, ct := fun env' st' => ∃ m', m' < m ∧ W m' env' st' } env st1 else D.nx env st1
theorem ds_while {c : Expr} {body : List Stmt} {mc : MT} {mb : MS} (hp : PassesOwn (model X.prog X.w) X.A X.env X.xe) (hc : DT X c mc) (hb : DSs X body mb) : DS X (.While c body [] pos) (sWhile mc mb) :=
  ⟨ps_mono (ps_while hp hc.pt hb.pss) fun D σ H ⟨env, st, D0, re, rs, ⟨W, ⟨n, w0⟩, turn⟩, k1, k2, k3, k4⟩ => by
    refine ⟨fun n σ' H' => ∃ env' st', Ext H H' ∧ RelE X.K H' env' σ' ∧ RelSto X.K H' st' ∧ W n env' st', ⟨n, env, st, .refl, re, rs, w0⟩, ?_⟩
    rintro n1 σ1 H1 ⟨env1, st1, e1, re1, rs1, w1⟩
    refine liftT_in re1 rs1 (turn n1 env1 st1 w1) fun t st2 H2 q e2 re2 rs2 => ?_
    have E2 : Ext H H2 := e1.trans e2
    cases t with
    | false => exact k1 env1 st2 σ1 H2 q E2 re2 rs2
    | true =>
      refine ⟨fun σ' H' => ∃ m', m' < n1 ∧ ∃ env' st', Ext H H' ∧ RelE X.K H' env' σ' ∧ RelSto X.K H' st' ∧ W m' env' st', fun σ' H' z => z, env1, st2, _, re2, rs2, q, ?_, ?_, ?_, ?_⟩
      · exact fun env' st' σ' H' ⟨m', hm, w⟩ e re rs => ⟨m', hm, env', st', E2.trans e, re, rs, w⟩
      · exact fun d st' v H' q e r rs => k2 d st' v H' q (E2.trans e) r rs
      · exact fun env' st' σ' H' q e re rs => k1 env' st' σ' H' q (E2.trans e) re rs
      · exact fun env' st' σ' H' ⟨m', hm, w⟩ e re rs => ⟨m', hm, env', st', E2.trans e, re, rs, w⟩⟩
end

/-- what is walked: its items, and what must stand while it is walked -/
abbrev MI := Env → Sto → (List D → (Sto → Prop) → Sto → Prop) → Prop
structure SrcJ (K : PySem.W.Frag) (H0 : Hp) (xs : List D) (ok : Sto → Prop) (J : It) : Prop where
  stop : ∀ i H st, xs.length ≤ i → Ext H0 H → RelSto K H st → ok st → J.stop i H
  go : ∀ i H st, i < xs.length → Ext H0 H → RelSto K H st → ok st → J.go i H
  yld : ∀ i H st x H', i < xs.length → Ext H0 H → RelSto K H st → ok st → J.yld i H x H' → ∃ d, xs[i]? = some d ∧ RelD K H' d x ∧ (∀ b u, H b = some u → H' b = some u)
def liftI (K : PySem.W.Frag) (mi : MI) : TI := fun σ H R => ∃ env st Q, RelE K H env σ ∧ RelSto K H st ∧ mi env st Q ∧
  ∀ xs ok st' J H', Q xs ok st' → Ext H H' → RelSto K H' st' → SrcJ K H' xs ok J → R J H'
structure DI (X : Cx) (tg iter : Expr) (mi : MI) : Prop where
  pi : PI X tg iter (liftI X.K mi)
theorem pi_mono {X : Cx} {tg iter : Expr} {t t' : TI} (h : PI X tg iter t) (k : ∀ σ H R, t' σ H R → t σ H R) : PI X tg iter t' := ⟨fun pins s σ H R I hw => h.run pins s σ H R I (k _ _ _ hw)⟩
theorem Ext.of_keep {H H' : Hp} (h : ∀ b u, H b = some u → H' b = some u) : Ext H H' := ⟨fun a xs r => by
  rcases r with r | ⟨o, r⟩
  · exact .inl (h _ _ r)
  · exact .inr ⟨o, h _ _ r⟩, fun a o u e => h _ _ e⟩
theorem RelSto.of_keep {K : PySem.W.Frag} {H H' : Hp} {st : Sto} (rs : RelSto K H st) (h : ∀ b u, H b = some u → H' b = some u) : RelSto K H' st := fun a o e => (rs a o e).keep (Ext.of_keep h).t fun u hu => h _ _ hu

/-- for x in xs: W by the turn, slots, store -/
def sFor (mi : MI) (g : MG) (b : MS) : MS := fun D env st => mi env st fun xs ok st1 => ∃ W : Nat → Env → Sto → Prop, W 0 env st1 ∧ (∀ i env st, i ≤ xs.length → W i env st → ok st) ∧
  (∀ i x env st, xs[i]? = some x → W i env st → g x env st fun env2 st2 => b { nx := W (i + 1), rt := D.rt, bk := D.nx, ct := W (i + 1) } env2 st2) ∧
  (∀ env st, W xs.length env st → D.nx env st)
section
variable {X : Cx} {tg iter : Expr} {body : List Stmt} {mi : MI} {g : MG} {mb : MS} {pos : Pos}
theorem ds_for (hp : PassesOwn (model X.prog X.w) X.A X.env X.xe) (hc : X.calm = true) (hi : DI X tg iter mi) (hg : DG X tg g) (hb : DSs X body mb)
    (hs : ∀ x, foldedSetIterable iter X.env x = pure x := by intro _; rfl) : DS X (.For tg iter body [] pos) (sFor mi g mb) :=
  ⟨ps_mono (ps_for hp hc hi.pi hg.pg hb.pss hs) fun D σ H ⟨env, st, D0, re, rs, h, k1, k2, k3, k4⟩ => by
    refine ⟨env, st, _, re, rs, h, fun xs ok st1 J H1 ⟨W, w0, hok, turn, fin⟩ e1 rs1 S => ?_⟩
    refine ⟨fun i n σ' H' => n = xs.length - i ∧ i ≤ xs.length ∧ ∃ env' st', Ext H1 H' ∧ RelE X.K H' env' σ' ∧ RelSto X.K H' st' ∧ W i env' st', ⟨xs.length, by simp, Nat.zero_le _, env, st1, .refl, re.mono e1, rs1, w0⟩, ?_⟩
    rintro i n σ' H' ⟨rfl, hi, env', st', e2, re2, rs2, w⟩
    have okk := hok i env' st' hi w
    by_cases hlt : i < xs.length
    · refine .inr ⟨S.go i H' st' hlt e2 rs2 okk, fun σ2 H2 => ∃ env2 st2, Ext H1 H2 ∧ RelE X.K H2 env2 σ2 ∧ RelSto X.K H2 st2 ∧ W (i + 1) env2 st2, fun σ2 H2 z => ⟨xs.length - (i + 1), by omega, rfl, hlt, z⟩, fun x H3 y => ?_⟩
      obtain ⟨d, hd, rd, kp⟩ := S.yld i H' st' x H3 hlt e2 rs2 okk y
      have e3 : Ext H' H3 := .of_keep kp
      refine ⟨d, env', st', _, rd, re2.mono e3, rs2.of_keep kp, turn i d env' st' hd w, fun env4 st4 σ4 H4 q e4 re4 rs4 => ?_⟩
      have E4 : Ext H1 H4 := e2.trans (e3.trans e4)
      refine ⟨env4, st4, _, re4, rs4, q, ?_, ?_, ?_, ?_⟩
      · exact fun a b c d w e re rs => ⟨a, b, E4.trans e, re, rs, w⟩
      · exact fun a b c d q e r rs => k2 a b c d q (e1.trans (E4.trans e)) r rs
      · exact fun a b c d q e re rs => k1 a b c d q (e1.trans (E4.trans e)) re rs
      · exact fun a b c d w e re rs => ⟨a, b, E4.trans e, re, rs, w⟩
    · have hn : i = xs.length := by omega
      subst hn
      exact .inl ⟨S.stop _ H' st' (Nat.le_refl _) e2 rs2 okk, k1 env' st' σ' H' (fin env' st' w) (e1.trans e2) re2 rs2⟩⟩
end
end L2.DL

namespace L2.DL
open PySem PySem.Spec PyProof.Rows

/-! ### what is walked -/
section
variable {X : Cx} {tg : Expr}
/-- a list, a tuple, a text -/
def wSeq (m : ME) : MI := fun env st Q => m env st fun x st1 => match x with
  | .tup xs => Q xs (fun _ => True) st1
  | .str z => Q (signsD z) (fun _ => True) st1
  | .ref a => ∃ xs, rdL (st1 a) = some xs ∧ Q xs (fun st => rdL (st a) = some xs) st1
  | _ => False
theorem pi_any {l : Expr} {tl : TE} (hl : PE X l tl) : PI X tg l (fun σ H R => tl σ H fun x H1 => (∃ a xs, x = .ref a ∧ SqL X.K H1 a xs ∧ R (Itl X.K a) H1) ∨ (∃ a xs, x = .ref a ∧ SqT X.K H1 a xs ∧ R (Itt X.K a) H1) ∨ (∃ z, x = .str z ∧ R (Its z) H1)) := by
  refine ⟨fun pins s σ H R I h => ?_⟩
  refine thn (hl.run pins s σ H _ I h) fun v s1 ⟨x, H1, I1, r1, q1⟩ => ?_
  rcases q1 with ⟨a, xs, e, hq, q⟩ | ⟨a, xs, e, hq, q⟩ | ⟨z, e, q⟩
  · subst e
    cases r1
    obtain ⟨its, rv, p, hz⟩ := I1.list hq
    refine wpAny_pyIter_list p.isList ?_
    refine ⟨s1.heap.objs.size, [s1.heap.objs.size], _, _, H1, rfl, I1.kept (t' := s1.toks) fun b o e => Heap.get?_push_of_some _ e, turn_list a _, ⟨_, Heap.get?_push_size _ rfl, rfl, rfl⟩, fun b hb => ?_, q⟩
    have e : b = s1.heap.objs.size := by simpa using hb
    subst e
    exact I1.fpOk (Nat.le_refl _) (I1.hok.fresh (Nat.le_refl _))
  · subst e
    cases r1
    obtain ⟨its, rv, p, hz⟩ := I1.tuple hq
    refine wpAny_pyIter_tuple (show s1.heap.IsTuple a its.toArray from p) ?_
    refine ⟨s1.heap.objs.size, [s1.heap.objs.size], _, _, H1, rfl, I1.kept (t' := s1.toks) fun b o e => Heap.get?_push_of_some _ e, turn_tuple a _, ⟨_, Heap.get?_push_size _ rfl, rfl, rfl⟩, fun b hb => ?_, q⟩
    have e : b = s1.heap.objs.size := by simpa using hb
    subst e
    exact I1.fpOk (Nat.le_refl _) (I1.hok.fresh (Nat.le_refl _))
  · subst e
    obtain ⟨t, rfl⟩ := r1
    cases ha : z.cps.all (· < 128)
    · exact wpAny_pyIter_wide ha (pi_one (tk := s1.toks) I1 _ (turn_str _ z t "str_iterator" (.inr rfl)) ⟨_, Heap.get?_push_size _ rfl, rfl, rfl⟩ q)
    · exact wpAny_pyIter_ascii ha (pi_one (tk := s1.toks) I1 _ (turn_str _ z t "str_ascii_iterator" (.inl rfl)) ⟨_, Heap.get?_push_size _ rfl, rfl, rfl⟩ q)
theorem src_tup {K : PySem.W.Frag} {H0 : Hp} {a : Addr} {ds : List D} {vs : List V} {ok : Sto → Prop} (g : SqT K H0 a vs) (r : RelDs K H0 ds vs) : SrcJ K H0 ds ok (Itt K a) where
  stop := fun i H st h e rs o => ⟨vs, e.sqT g, by rw [← r.length]; exact h⟩
  go := fun i H st h e rs o => ⟨vs, vs[i]'(by rw [← r.length]; exact h), e.sqT g, by simp [← r.length, h]⟩
  yld := fun i H st x H' h e rs o y => by
    obtain ⟨rfl, y⟩ := y
    have hx := y vs (e.sqT g)
    obtain ⟨d, hd, rd⟩ := (r.mono e).getV hx
    exact ⟨d, hd, rd, fun b u z => z⟩
theorem src_list {K : PySem.W.Frag} {H0 : Hp} {a : Addr} {ds : List D} : SrcJ K H0 ds (fun st => rdL (st a) = some ds) (Itl K a) where
  stop := fun i H st h e rs o => by
    obtain ⟨vs, g, r⟩ := rs.rdL o
    exact ⟨vs, g, by rw [← r.length]; exact h⟩
  go := fun i H st h e rs o => by
    obtain ⟨vs, g, r⟩ := rs.rdL o
    exact ⟨vs, vs[i]'(by rw [← r.length]; exact h), g, by simp [← r.length, h]⟩
  yld := fun i H st x H' h e rs o y => by
    obtain ⟨rfl, y⟩ := y
    obtain ⟨vs, g, r⟩ := rs.rdL o
    obtain ⟨d, hd, rd⟩ := r.getV (y vs g)
    exact ⟨d, hd, rd, fun b u z => z⟩
theorem src_str {K : PySem.W.Frag} {H0 : Hp} {z : Str} {ok : Sto → Prop} : SrcJ K H0 (signsD z) ok (Its z) where
  stop := fun i H st h e rs o => by
    have h' : z.cps.size ≤ i := by simpa [signsD] using h
    exact h'
  go := fun i H st h e rs o => by
    have h' : i < z.cps.size := by simpa [signsD] using h
    exact h'
  yld := fun i H st x H' h e rs o y => by
    obtain ⟨rfl, c, hc, rfl⟩ := y
    refine ⟨.str ⟨#[c]⟩, ?_, .str _, fun b u z => z⟩
    have hc' : z.cps.toList[i]? = some c := by simpa using hc
    simp [signsD, hc']
theorem di_seq {e : Expr} {m : ME} (he : DE X e m) : DI X tg e (wSeq m) :=
  ⟨pi_mono (pi_any he.pe) fun σ H R ⟨env, st, Q0, re, rs, h, k⟩ => by
    refine lift_in re rs h fun x st1 x' H1 q ex rx re1 rs1 => ?_
    cases x with
    | tup ds =>
      obtain ⟨a, vs, rfl, g, r⟩ := rx.tup_of
      exact .inr (.inl ⟨a, vs, rfl, g, k ds _ st1 _ H1 q ex rs1 (src_tup g r)⟩)
    | str z =>
      cases rx
      exact .inr (.inr ⟨z, rfl, k _ _ st1 _ H1 q ex rs1 src_str⟩)
    | ref a =>
      cases rx
      obtain ⟨xs, e1, q⟩ := q
      obtain ⟨vs, g, r⟩ := rs1.rdL e1
      exact .inl ⟨a, vs, rfl, g, k xs _ st1 _ H1 q ex rs1 src_list⟩
    | _ => exact q.elim⟩
/-- range(..) -/
def rangeD (lo : Int) (n : Nat) : List D := (List.range n).map fun (i : Nat) => D.int (lo + (i : Int))
theorem src_rng {K : PySem.W.Frag} {H0 : Hp} {lo : Int} {n : Nat} {ok : Sto → Prop} : SrcJ K H0 (rangeD lo n) ok (Itr lo n) where
  stop := fun i H st h e rs o => by
    have h' : n ≤ i := by simpa [rangeD] using h
    exact h'
  go := fun i H st h e rs o => by
    have h' : i < n := by simpa [rangeD] using h
    exact h'
  yld := fun i H st x H' h e rs o y => by
    obtain ⟨rfl, rfl⟩ := y
    have hi : i < n := by simpa [rangeD] using h
    exact ⟨.int (lo + i), by simp [rangeD, hi], .int _, fun b u z => z⟩
def wRng1 (m : ME) : MI := fun env st Q => m env st fun x st1 => ∃ j, x = .int j ∧ (-(2 ^ 62) ≤ j ∧ j < 2 ^ 62) ∧ Q (rangeD 0 j.toNat) (fun _ => True) st1
def wRng2 (ma mb : ME) : MI := fun env st Q => ma env st fun x st1 => mb env st1 fun y st2 => ∃ i j, x = .int i ∧ y = .int j ∧ (-(2 ^ 62) ≤ i ∧ i < 2 ^ 62 ∧ -(2 ^ 62) ≤ j ∧ j < 2 ^ 62) ∧ Q (rangeD i (j - i).toNat) (fun _ => True) st2
theorem lift_args1 {K : PySem.W.Frag} {a : Expr} {ma : ME} {σ : St} {H : Hp} {env : Env} {st : Sto} {P : DK} {R : List V → Hp → Prop} (re : RelE K H env σ) (rs : RelSto K H st) (h : ma env st P)
    (k : ∀ x st1 x' H1, P x st1 → Ext H H1 → RelD K H1 x x' → RelSto K H1 st1 → R [x'] H1) : tCons (lift K ma) tNil σ H R :=
  lift_in re rs h fun x st1 x' H1 q e rx re1 rs1 => k x st1 x' H1 q e rx rs1
theorem lift_args2 {K : PySem.W.Frag} {ma mb : ME} {σ : St} {H : Hp} {env : Env} {st : Sto} {P : D → D → Sto → Prop} {R : List V → Hp → Prop} (re : RelE K H env σ) (rs : RelSto K H st) (h : ma env st fun x st1 => mb env st1 fun y st2 => P x y st2)
    (k : ∀ x y st1 x' y' H1, P x y st1 → Ext H H1 → RelD K H1 x x' → RelD K H1 y y' → RelSto K H1 st1 → R [x', y'] H1) : tCons (lift K ma) (tCons (lift K mb) tNil) σ H R :=
  lift_in re rs h fun x st1 x' H1 q e rx re1 rs1 => lift_in re1 rs1 q fun y st2 y' H2 q2 e2 ry re2 rs2 => k x y st2 x' y' H2 q2 (e.trans e2) (rx.mono e2) ry rs2
/-- range with a step -/
def stepD (lo c : Int) (n : Nat) : List D := (List.range n).map fun (i : Nat) => D.int (lo + (i : Int) * c)
theorem src_step {K : PySem.W.Frag} {H0 : Hp} {lo c : Int} {n : Nat} {ok : Sto → Prop} : SrcJ K H0 (stepD lo c n) ok (Itc lo c n) where
  stop := fun i H st h e rs o => by
    have h' : n ≤ i := by simpa [stepD] using h
    exact h'
  go := fun i H st h e rs o => by
    have h' : i < n := by simpa [stepD] using h
    exact h'
  yld := fun i H st x H' h e rs o y => by
    obtain ⟨rfl, rfl⟩ := y
    have hi : i < n := by simpa [stepD] using h
    exact ⟨.int (lo + i * c), by simp [stepD, hi], .int _, fun b u z => z⟩
def wRng3 (ma mb mc : ME) : MI := fun env st Q => ma env st fun x st1 => mb env st1 fun y st2 => mc env st2 fun z st3 => ∃ i j c n, x = .int i ∧ y = .int j ∧ z = .int c ∧ RgC i j c n ∧ Q (stepD i c n) (fun _ => True) st3
theorem di_rng3 {a b c : Expr} {ma mb mc : ME} {p pos : Pos} (hg : Gl X "range") (hm : X.mg "range" = none) (ha : DE X a ma) (hb : DE X b mb) (hc : DE X c mc)
    (hs : starEach [a, b, c] X.env = (false, eval a X.env) :: starEach [b, c] X.env := by rfl) (hs2 : starEach [b, c] X.env = (false, eval b X.env) :: starEach [c] X.env := by rfl) (hs3 : starEach [c] X.env = (false, eval c X.env) :: starEach [] X.env := by rfl)
    (hpl : (backTo pos (starEach [b, c] X.env)).any (·.1) = false := by rfl) :
    DI X tg (.Call (.Name "range" p) [a, b, c] [] pos) (wRng3 ma mb mc) :=
  ⟨pi_mono (pi_range3 hg hm (pa_cons ha.pe (pa_cons hb.pe (pa_cons hc.pe pa_nil hs3) hs2) hs) hs hpl) fun σ H R ⟨env, st, Q0, re, rs, h, k⟩ => by
    refine lift_in re rs h fun x st1 x' H1 q1 e1 rx re1 rs1 => ?_
    refine lift_in re1 rs1 q1 fun y st2 y' H2 q2 e2 ry re2 rs2 => ?_
    refine lift_in re2 rs2 q2 fun z st3 z' H3 ⟨i, j, c, n, ex, ey, ez, g, q3⟩ e3 rz re3 rs3 => ?_
    subst ex ey ez
    cases rx; cases ry; cases rz
    exact ⟨i, j, c, n, rfl, g, k _ _ st3 _ H3 q3 (e1.trans (e2.trans e3)) rs3 src_step⟩⟩
theorem di_rng1 {a : Expr} {m : ME} {p pos : Pos} (hg : Gl X "range") (hm : X.mg "range" = none) (ha : DE X a m) (hs : starEach [a] X.env = [(false, eval a X.env)] := by rfl) : DI X tg (.Call (.Name "range" p) [a] [] pos) (wRng1 m) :=
  ⟨pi_mono (pi_range1 hg hm (pa_cons ha.pe pa_nil hs) hs) fun σ H R ⟨env, st, Q0, re, rs, h, k⟩ =>
    lift_args1 (a := a) re rs h fun x st1 x' H1 ⟨j, e, ⟨b1, b2⟩, q⟩ ex rx rs1 => by
      subst e
      cases rx
      exact ⟨j, rfl, b1, b2, k _ _ st1 _ H1 q ex rs1 src_rng⟩⟩
theorem di_rng2 {a b : Expr} {ma mb : ME} {p pos : Pos} (hg : Gl X "range") (hm : X.mg "range" = none) (ha : DE X a ma) (hb : DE X b mb) (hs : starEach [a, b] X.env = [(false, eval a X.env), (false, eval b X.env)] := by rfl) (hs2 : starEach [b] X.env = [(false, eval b X.env)] := by rfl) :
    DI X tg (.Call (.Name "range" p) [a, b] [] pos) (wRng2 ma mb) :=
  ⟨pi_mono (pi_range2 hg hm (pa_cons ha.pe (pa_cons hb.pe pa_nil hs2) (by rw [hs, hs2])) hs hs2) fun σ H R ⟨env, st, Q0, re, rs, h, k⟩ =>
    lift_args2 re rs h fun x y st1 x' y' H1 ⟨i, j, e, e2, b, q⟩ ex rx ry rs1 => by
      subst e e2
      cases rx; cases ry
      exact ⟨i, j, rfl, b, k _ _ st1 _ H1 q ex rs1 src_rng⟩⟩
end

/-! ### comprehensions -/
def mYes : MT := fun _ st Q => Q true st
structure DTs (X : Cx) (ifs : List Expr) (t : MT) : Prop where
  pts : PTs X ifs (liftT X.K t)
theorem pts_mono {X : Cx} {ifs : List Expr} {t t' : TT} (h : PTs X ifs t) (k : ∀ σ H Q, t' σ H Q → t σ H Q) : PTs X ifs t' := ⟨fun pins s σ H Q I hw => h.run pins s σ H Q I (k _ _ _ hw)⟩
theorem dts_nil {X : Cx} : DTs X [] mYes := ⟨pts_mono pts_nil fun σ H Q ⟨env, st, Q0, re, rs, h, k⟩ => k true st H h .refl rs⟩
theorem dts_one {X : Cx} {c : Expr} {t : MT} (h : DT X c t) : DTs X [c] t := ⟨pts_one h.pt⟩
/-- a comprehension's targets: its own slots alone are stored -/
def liftGc (K : PySem.W.Frag) (g : MG) (ws : List Nat) : TG := fun v σ H Q' => ∃ d env st Q, RelD K H d v ∧ RelE K H env σ ∧ RelSto K H st ∧ g d env st Q ∧
  ∀ env' st' σ' H', Q env' st' → Ext H H' → RelE K H' env' σ' → RelSto K H' st' → wipe σ' ws = wipe σ ws → Q' σ' H'
def liftGsc (K : PySem.W.Frag) (g : MGs) (ws : List Nat) : TGs := fun vs σ H Q' => ∃ ds env st Q, RelDs K H ds vs ∧ RelE K H env σ ∧ RelSto K H st ∧ g ds env st Q ∧
  ∀ env' st' σ' H', Q env' st' → Ext H H' → RelE K H' env' σ' → RelSto K H' st' → wipe σ' ws = wipe σ ws → Q' σ' H'
structure DGc (X : Cx) (t : Expr) (g : MG) (ws : List Nat) : Prop where
  pg : PG X t (liftGc X.K g ws)
structure DGsc (X : Cx) (t : List Expr) (g : MGs) (ws : List Nat) : Prop where
  pgs : PGs X t (liftGsc X.K g ws)
theorem wipe_get (σ : L2.St) : ∀ (ws : List Nat) (j : Nat), (wipe σ ws)[j]? = if j ∈ ws then σ[j]?.map (fun _ => none) else σ[j]?
  | [], j => by simp [wipe]
  | w :: ws, j => by
    unfold wipe
    by_cases h : w = j
    · subst h
      rw [List.getElem?_set_self', wipe_get σ ws w]
      simp only [List.mem_cons, true_or, if_true]
      split <;> cases σ[w]? <;> rfl
    · rw [List.getElem?_set_ne h, wipe_get σ ws j]
      simp [List.mem_cons, Ne.symm h]
theorem wipe_set {σ : L2.St} {i : Nat} {v : Option V} {ws : List Nat} (h : i ∈ ws) : wipe (σ.set i v) ws = wipe σ ws := by
  apply List.ext_getElem?
  intro j
  rw [wipe_get, wipe_get]
  by_cases hj : j ∈ ws
  · simp only [hj, if_true]
    by_cases e : i = j
    · subst e
      rw [List.getElem?_set_self']
      cases σ[i]? <;> simp
    · rw [List.getElem?_set_ne e]
  · simp only [hj, if_false]
    have e : i ≠ j := fun z => hj (z ▸ h)
    rw [List.getElem?_set_ne e]
theorem wipe_wipe {σ : L2.St} {ws : List Nat} : wipe (wipe σ ws) ws = wipe σ ws := by
  apply List.ext_getElem?
  intro j
  rw [wipe_get, wipe_get]
  split
  · cases σ[j]? <;> simp
  · rfl
section
variable {X : Cx} {pos : Pos} {ws : List Nat}
theorem dgc_name {i : Nat} {x : Str} (hN : X.N.Nodup) (hi : X.N[i]? = some x) (hx : Loc X.env.scope x) (hw : i ∈ ws) (hf : X.fn x = true ∨ X.env.scope.names.lookup x = some .local := by first | exact .inl rfl | exact .inr rfl | assumption) : DGc X (.Name x pos) (gN i) ws :=
  ⟨pg_mono (pg_name hN hi hx hf) fun v σ H Q ⟨d, env, st, Q0, r, re, rs, h, k⟩ => k _ st _ H h .refl (re.set r i) rs (wipe_set hw)⟩
theorem dgsc_nil : DGsc X [] gNil ws := ⟨pgs_mono pgs_nil fun vs σ H Q ⟨ds, env, st, Q0, r, re, rs, ⟨e, h⟩, k⟩ => by
  subst e
  cases r
  exact ⟨rfl, k env st σ H h .refl re rs rfl⟩⟩
theorem dgsc_cons {e : Expr} {es : List Expr} {g : MG} {gs : MGs} (h1 : DGc X e g ws) (h2 : DGsc X es gs ws)
    (hs : (assignEach (e :: es) X.env).map (·.2) = assign e X.env :: (assignEach es X.env).map (·.2) := by rfl) : DGsc X (e :: es) (gCons g gs) ws :=
  ⟨pgs_mono (pgs_cons h1.pg h2.pgs hs) fun vs σ H Q ⟨ds, env, st, Q0, r, re, rs, ⟨d, dr, e, h⟩, k⟩ => by
    subst e
    cases r with
    | cons r t =>
      refine ⟨_, _, rfl, d, env, st, _, r, re, rs, h, fun env' st' σ' H' q e re' rs' ew => ?_⟩
      exact ⟨dr, env', st', Q0, t.mono e, re', rs', q, fun a b c d q e2 re2 rs2 ew2 => k a b c d q (e.trans e2) re2 rs2 (ew2.trans ew)⟩⟩
theorem dgc_tup {es : List Expr} {k : Nat} {gs : MGs} {n : Nat} (hc : X.calm = true) (h : DGsc X es gs ws)
    (hn : (assignEach es X.env).length = n := by rfl) (hst : (assignEach es X.env).findIdx? (·.1) = none := by rfl) : DGc X (.Tuple es k pos) (gTup n gs) ws :=
  ⟨pg_mono (pg_tup hc h.pgs hn hst) fun v σ H Q ⟨d, env, st, Q0, r, re, rs, ⟨ds, e, hl, h⟩, k⟩ => by
    subst e
    obtain ⟨a, vs, rfl, g, r2⟩ := r.tup_of
    exact ⟨a, vs, rfl, g, by rw [← r2.length]; exact hl, ds, env, st, Q0, r2, re, rs, h, k⟩⟩
end
/-- [e for g in xs if t]: W by the turn and the store, the new list at p within -/
def mLc (mi : MI) (g : MG) (mt : MT) (me : ME) (ws : List Nat) : ME := fun env st Q => mi env st fun xs ok st1 => ∀ p, Nf st1 p → ∃ W : Nat → List D → Sto → Prop, W 0 [] (put st1 p (.lst [])) ∧
  (∀ i acc st, i ≤ xs.length → W i acc st → ok st ∧ st p = some (.lst acc)) ∧
  (∀ i acc x st, xs[i]? = some x → W i acc st → g x (wipeE env ws) st fun env2 st2 => mt env2 st2 fun b st3 =>
    if b = true then me env2 st3 fun y st4 => st4 p = some (.lst acc) ∧ acc.length < sizeLine ∧ W (i + 1) (acc ++ [y]) (put st4 p (.lst (acc ++ [y]))) else W (i + 1) acc st3) ∧
  (∀ acc st, W xs.length acc st → Q (.ref p) st)
theorem lift_lc {K : PySem.W.Frag} {mi : MI} {g : MG} {mt : MT} {me : ME} {ws : List Nat} {σ : L2.St} {H : Hp} {Q : VK} (h : lift K (mLc mi g mt me ws) σ H Q) : tLc (liftI K mi) (liftGc K g ws) (liftT K mt) (lift K me) ws σ H Q := by
  obtain ⟨env, st, Q0, re, rs, h, k⟩ := h
  refine ⟨env, st, _, re, rs, h, fun xs ok st1 J H1 q e1 rs1 S p hp => ?_⟩
  obtain ⟨W, w0, hok, turn, fin⟩ := q p (rs1.fresh hp)
  have exp : Ext H1 (upd H1 p (.lst [])) := .upd_new hp
  refine ⟨fun i m H' => m = xs.length - i ∧ i ≤ xs.length ∧ ∃ acc st', Ext H1 H' ∧ RelSto K H' st' ∧ W i acc st', ⟨xs.length, by simp, Nat.zero_le _, [], _, exp, rs1.put (o := .lst []) exp ⟨[], upd_same, .nil⟩, w0⟩, ?_⟩
  rintro i m H' ⟨rfl, hi, acc, st', e2, rs2, w⟩
  obtain ⟨okk, hpp⟩ := hok i acc st' hi w
  by_cases hlt : i < xs.length
  · refine .inr ⟨S.go i H' st' hlt e2 rs2 okk, fun H2 => ∃ acc2 st2, Ext H1 H2 ∧ RelSto K H2 st2 ∧ W (i + 1) acc2 st2, fun H2 z => ⟨xs.length - (i + 1), by omega, rfl, hlt, z⟩, fun x H3 y => ?_⟩
    obtain ⟨d, hd, rd, kp⟩ := S.yld i H' st' x H3 hlt e2 rs2 okk y
    have e3 : Ext H' H3 := .of_keep kp
    refine ⟨d, wipeE env ws, st', _, rd, ((re.mono (e1.trans (e2.trans e3))).wipe ws), rs2.of_keep kp, turn i acc d st' hd w, fun env4 st4 σ4 H4 q4 e4 re4 rs4 ew => ⟨by rw [ew, wipe_wipe], ?_⟩⟩
    refine liftT_in re4 rs4 q4 fun b st5 H5 q5 e5 re5 rs5 => ?_
    have E5 : Ext H1 H5 := e2.trans (e3.trans (e4.trans e5))
    cases b with
    | false => exact ⟨acc, st5, E5, rs5, q5⟩
    | true =>
      refine lift_in re5 rs5 q5 fun y st6 y' H6 ⟨hD, hz, w6⟩ e6 ry re6 rs6 => ?_
      obtain ⟨vs, gD, rD⟩ := rs6 _ _ hD
      have ex : ∀ u, Ext H6 (upd H6 p u) := fun u => upd_mutL gD
      exact ⟨vs, gD, by rw [← rD.length]; exact hz, _, _, E5.trans (e6.trans (ex _)), rs6.put (o := .lst (acc ++ [y])) (ex _) ⟨_, upd_same, (rD.append (.cons ry .nil)).mono (ex _)⟩, w6⟩
  · have hn : i = xs.length := by omega
    subst hn
    exact .inl ⟨S.stop _ H' st' (Nat.le_refl _) e2 rs2 okk, k _ st' _ H' (fin acc st' w) (e1.trans e2) (.ref p) rs2⟩
section
variable {X : Cx}
theorem de_lc {elt tg iter : Expr} {ifs : List Expr} {scope : Scope} {own : List (Str × Nat)} {ws : List Nat} {pos : Pos} {mi : MI} {g : MG} {mt : MT} {me : ME} (hc : X.calm = true) (hN : X.N.Nodup) (hi : DI X tg iter mi) (ok : BlkOk X.N X.env.scope scope own)
    (hg : ∀ (s : Shared) (H : Hp) (C : Addr) (cl : List (Str × Addr)) (fp : List Addr), DGc (X.blk s H scope (compEnvC scope cl C X.env) fp) tg g ws) (ht : ∀ (s : Shared) (H : Hp) (C : Addr) (cl : List (Str × Addr)) (fp : List Addr), DTs (X.blk s H scope (compEnvC scope cl C X.env) fp) ifs mt)
    (he : ∀ (s : Shared) (H : Hp) (C : Addr) (cl : List (Str × Addr)) (fp : List Addr), DE (X.blk s H scope (compEnvC scope cl C X.env) fp) elt me) (hws : own.map (·.2) = ws := by rfl) (hs : ∀ x, foldedSetIterable iter X.env x = pure x := by intro _; rfl) :
    DE X (.ListComp elt [⟨tg, iter, ifs, 0⟩] scope pos) (mLc mi g mt me ws) := by
  subst hws
  exact ⟨pe_mono (pe_lc hc hN hi.pi ok (fun s H C cl fp => (hg s H C cl fp).pg) (fun s H C cl fp => (ht s H C cl fp).pts) (fun s H C cl fp => (he s H C cl fp).pe) hs) fun σ H Q => lift_lc⟩
theorem ds_setLc {i : Nat} {y : Str} {py : Pos} {elt tg iter : Expr} {ifs : List Expr} {scope : Scope} {own : List (Str × Nat)} {ws : List Nat} {pos spos : Pos} {mi : MI} {g : MG} {mt : MT} {me : ME} (hc : X.calm = true) (hN : X.N.Nodup) (hy : X.N[i]? = some y) (hyl : X.env.scope.names.lookup y = some .local)
    (hsw : swapsWith (.ListComp elt [⟨tg, iter, ifs, 0⟩] scope pos) (some (.Name y py)) spos.line X.env = pure true) (hi : DI X tg iter mi) (ok : BlkOk X.N X.env.scope scope own)
    (hg : ∀ (s : Shared) (H : Hp) (C : Addr) (cl : List (Str × Addr)) (fp : List Addr), DGc (X.blk s H scope (compEnvC scope cl C X.env) fp) tg g ws) (ht : ∀ (s : Shared) (H : Hp) (C : Addr) (cl : List (Str × Addr)) (fp : List Addr), DTs (X.blk s H scope (compEnvC scope cl C X.env) fp) ifs mt)
    (he : ∀ (s : Shared) (H : Hp) (C : Addr) (cl : List (Str × Addr)) (fp : List Addr), DE (X.blk s H scope (compEnvC scope cl C X.env) fp) elt me) (hws : own.map (·.2) = ws := by rfl) (hs : ∀ x, foldedSetIterable iter X.env x = pure x := by intro _; rfl) :
    DS X (.Assign [.Name y py] (.ListComp elt [⟨tg, iter, ifs, 0⟩] scope pos) spos) (sAsg (mLc mi g mt me ws) (gN i)) := by
  subst hws
  exact ⟨ps_mono (ps_setLc hc hN hy hyl hsw hi.pi ok (fun s H C cl fp => (hg s H C cl fp).pg) (fun s H C cl fp => (ht s H C cl fp).pts) (fun s H C cl fp => (he s H C cl fp).pe) hs) fun D σ H ⟨env, st, D0, re, rs, h, k1, _⟩ => by
    have h2 : lift X.K (mLc mi g mt me (own.map (·.2))) σ H fun x H1 => gName i x σ H1 D.nx :=
      ⟨env, st, _, re, rs, h, fun d st' v H' q e r s => k1 _ st' _ H' q e ((re.mono e).set r i) s⟩
    exact lift_lc h2⟩

/-! ### dict comprehensions -/
def mDc (mi : MI) (g : MG) (mt : MT) (mk mv : ME) (ws : List Nat) : ME := fun env st Q => mi env st fun xs ok st1 => ∀ p, Nf st1 p → ∃ W : Nat → List (Key × D) → Sto → Prop, W 0 [] (put st1 p (.dic [])) ∧
  (∀ i acc st, i ≤ xs.length → W i acc st → ok st ∧ st p = some (.dic acc)) ∧
  (∀ i acc x st, xs[i]? = some x → W i acc st → g x (wipeE env ws) st fun env2 st2 => mt env2 st2 fun b st3 =>
    if b = true then mk env2 st3 fun y st4 => mv env2 st4 fun z st5 => ∃ k, keyD y = some k ∧ st5 p = some (.dic acc) ∧ acc.length < sizeLine ∧ W (i + 1) (putD acc k z) (put st5 p (.dic (putD acc k z))) else W (i + 1) acc st3) ∧
  (∀ acc st, W xs.length acc st → Q (.ref p) st)
theorem lift_dc {K : PySem.W.Frag} {mi : MI} {g : MG} {mt : MT} {mk mv : ME} {ws : List Nat} {σ : L2.St} {H : Hp} {Q : VK} (h : lift K (mDc mi g mt mk mv ws) σ H Q) : tDc (liftI K mi) (liftGc K g ws) (liftT K mt) (lift K mk) (lift K mv) ws σ H Q := by
  obtain ⟨env, st, Q0, re, rs, h, k⟩ := h
  refine ⟨env, st, _, re, rs, h, fun xs ok st1 J H1 q e1 rs1 S p hp => ?_⟩
  obtain ⟨W, w0, hok, turn, fin⟩ := q p (rs1.fresh hp)
  have exp : Ext H1 (upd H1 p (.dK [])) := .upd_new hp
  refine ⟨fun i m H' => m = xs.length - i ∧ i ≤ xs.length ∧ ∃ acc st', Ext H1 H' ∧ RelSto K H' st' ∧ W i acc st', ⟨xs.length, by simp, Nat.zero_le _, [], _, exp, rs1.put (o := .dic []) exp ⟨[], upd_same, .nil⟩, w0⟩, ?_⟩
  rintro i m H' ⟨rfl, hi, acc, st', e2, rs2, w⟩
  obtain ⟨okk, hpp⟩ := hok i acc st' hi w
  by_cases hlt : i < xs.length
  · refine .inr ⟨S.go i H' st' hlt e2 rs2 okk, fun H2 => ∃ acc2 st2, Ext H1 H2 ∧ RelSto K H2 st2 ∧ W (i + 1) acc2 st2, fun H2 z => ⟨xs.length - (i + 1), by omega, rfl, hlt, z⟩, fun x H3 y => ?_⟩
    obtain ⟨d, hd, rd, kp⟩ := S.yld i H' st' x H3 hlt e2 rs2 okk y
    have e3 : Ext H' H3 := .of_keep kp
    refine ⟨d, wipeE env ws, st', _, rd, ((re.mono (e1.trans (e2.trans e3))).wipe ws), rs2.of_keep kp, turn i acc d st' hd w, fun env4 st4 σ4 H4 q4 e4 re4 rs4 ew => ⟨by rw [ew, wipe_wipe], ?_⟩⟩
    refine liftT_in re4 rs4 q4 fun b st5 H5 q5 e5 re5 rs5 => ?_
    have E5 : Ext H1 H5 := e2.trans (e3.trans (e4.trans e5))
    cases b with
    | false => exact ⟨acc, st5, E5, rs5, q5⟩
    | true =>
      refine lift_in re5 rs5 q5 fun y st6 y' H6 q6 e6 ry re6 rs6 => ?_
      refine lift_in re6 rs6 q6 fun z st7 z' H7 ⟨k, ek, hD, hz, w7⟩ e7 rz re7 rs7 => ?_
      obtain ⟨vs, gD, rD⟩ := rs7 _ _ hD
      have ex : ∀ u, Ext H7 (upd H7 p u) := fun u => .upd_mut (by rw [gD]; trivial)
      exact ⟨vs, k, key_rel ry ek, gD, by rw [rD.length]; exact hz, _, _, E5.trans (e6.trans (e7.trans (ex _))), rs7.put (o := .dic (putD acc k z)) (ex _) ⟨_, upd_same, (rD.put k rz).mono (ex _)⟩, w7⟩
  · have hn : i = xs.length := by omega
    subst hn
    exact .inl ⟨S.stop _ H' st' (Nat.le_refl _) e2 rs2 okk, k _ st' _ H' (fin acc st' w) (e1.trans e2) (.ref p) rs2⟩
theorem de_dc {kx vx tg iter : Expr} {ifs : List Expr} {scope : Scope} {own : List (Str × Nat)} {ws : List Nat} {pos : Pos} {mi : MI} {g : MG} {mt : MT} {mk mv : ME} (hc : X.calm = true) (hN : X.N.Nodup) (hi : DI X tg iter mi) (ok : BlkOk X.N X.env.scope scope own)
    (hg : ∀ (s : Shared) (H : Hp) (C : Addr) (cl : List (Str × Addr)) (fp : List Addr), DGc (X.blk s H scope (compEnvC scope cl C X.env) fp) tg g ws) (ht : ∀ (s : Shared) (H : Hp) (C : Addr) (cl : List (Str × Addr)) (fp : List Addr), DTs (X.blk s H scope (compEnvC scope cl C X.env) fp) ifs mt)
    (hk : ∀ (s : Shared) (H : Hp) (C : Addr) (cl : List (Str × Addr)) (fp : List Addr), DE (X.blk s H scope (compEnvC scope cl C X.env) fp) kx mk)
    (he : ∀ (s : Shared) (H : Hp) (C : Addr) (cl : List (Str × Addr)) (fp : List Addr), DE (X.blk s H scope (compEnvC scope cl C X.env) fp) vx mv) (hws : own.map (·.2) = ws := by rfl) (hs : ∀ x, foldedSetIterable iter X.env x = pure x := by intro _; rfl) :
    DE X (.DictComp kx vx [⟨tg, iter, ifs, 0⟩] scope pos) (mDc mi g mt mk mv ws) := by
  subst hws
  exact ⟨pe_mono (pe_dc hc hN hi.pi ok (fun s H C cl fp => (hg s H C cl fp).pg) (fun s H C cl fp => (ht s H C cl fp).pts) (fun s H C cl fp => (hk s H C cl fp).pe) (fun s H C cl fp => (he s H C cl fp).pe) hs) fun σ H Q => lift_dc⟩
/-- name = {..} on one line, the name a local -/
theorem ps_setDc {i : Nat} {y : Str} {py : Pos} {kx vx tg iter : Expr} {ifs : List Expr} {scope : Scope} {own : List (Str × Nat)} {pos spos : Pos} {wi : TI} {g : TG} {tt : TT} {tk tv : TE} (hc : X.calm = true) (hN : X.N.Nodup) (hy : X.N[i]? = some y) (hyl : X.env.scope.names.lookup y = some .local)
    (hsw : swapsWith (.DictComp kx vx [⟨tg, iter, ifs, 0⟩] scope pos) (some (.Name y py)) spos.line X.env = pure true) (hi : PI X tg iter wi) (ok : BlkOk X.N X.env.scope scope own)
    (hg : ∀ (s : Shared) (H : Hp) (C : Addr) (cl : List (Str × Addr)) (fp : List Addr), PG (X.blk s H scope (compEnvC scope cl C X.env) fp) tg g) (ht : ∀ (s : Shared) (H : Hp) (C : Addr) (cl : List (Str × Addr)) (fp : List Addr), PTs (X.blk s H scope (compEnvC scope cl C X.env) fp) ifs tt)
    (hk : ∀ (s : Shared) (H : Hp) (C : Addr) (cl : List (Str × Addr)) (fp : List Addr), PE (X.blk s H scope (compEnvC scope cl C X.env) fp) kx tk)
    (he : ∀ (s : Shared) (H : Hp) (C : Addr) (cl : List (Str × Addr)) (fp : List Addr), PE (X.blk s H scope (compEnvC scope cl C X.env) fp) vx tv) (hs : ∀ x, foldedSetIterable iter X.env x = pure x := by intro _; rfl) :
    PS X (.Assign [.Name y py] (.DictComp kx vx [⟨tg, iter, ifs, 0⟩] scope pos) spos) (tAsg (tDc wi g tt tk tv (own.map (·.2))) (gName i)) := by
  refine ⟨fun pins s σ H D I h => ?_⟩
  rw [exec_Assign_Name_used _ _ _ _ hsw]
  refine wpAny_bind (wpAny_standAt (wpAny_bind ?_))
  show wpAny _ X.A (do let _ ← comprehension (.DictComp kx vx [⟨tg, iter, ifs, 0⟩] scope pos) scope X.env (firstIterPos [⟨tg, iter, ifs, 0⟩] pos) newDict false (eval iter X.env) (some (assign (.Name y py) X.env))) _ _ s
  have h : tDc wi g tt tk tv (own.map (·.2)) σ H (fun x H1 => gName i x σ H1 D.nx) := h
  refine wpAny_bind (thn (dc_core (Qf := fun _ s' => SP X pins D .next s') hc hN I hi ok hg ht hk he hs h fun L C s' m H' I' q hn f => ?_) fun _ s' hq => wpAny_pure (wpAny_pure hq))
  show wpAny _ _ (assign (.Name y py) X.env (.ref L)) _ _ _
  refine wpAny_assign_Name (store_ok2 (v := V.ref L) I' hN hy (.inl hyl) rfl (fun s2 I2 ⟨a, sb, ha⟩ => ?_) (.inr hyl))
  obtain ⟨f0, f1, f2, f3, f4, f5⟩ := f
  have haC : C ≠ a := by
    rcases ha with z | z
    · rw [z]; exact f1
    · exact fun e => f4 y a z e.symm
  refine ⟨m, hn.sameBut sb haC, fun h3 sb3 => ?_⟩
  exact ⟨_, H', I2.turned (t' := s2.toks) (fun b o hb e => (sb3.2 b hb).trans e) f0 f1 f3 f4 f5, q⟩
theorem swD_true {kx vx : Expr} {gs : List Comprehension} {scope : Scope} {pos py : Pos} {y : Str} {l : Nat} {env : PySem.Env} (hk : env.scope.kind = .function) (hy : env.scope.names.lookup y = some .local) (hl : (py.line == pos.line) = true)
    (ha : (scope.names.any fun (n, k) => n == y && (k == .local || k == .cell)) = false) : swapsWith (.DictComp kx vx gs scope pos) (some (.Name y py)) l env = pure true := by
  have ky : env.kindOf y = some .local := hy
  have hb : env.blockKind = .function := by unfold Env.blockKind; rw [hk]; rfl
  unfold swapsWith
  simp only [hb, ky, ha, Expr.pos, hl]
  rfl
theorem ds_setDc {i : Nat} {y : Str} {py : Pos} {kx vx tg iter : Expr} {ifs : List Expr} {scope : Scope} {own : List (Str × Nat)} {ws : List Nat} {pos spos : Pos} {mi : MI} {g : MG} {mt : MT} {mk mv : ME} (hc : X.calm = true) (hN : X.N.Nodup) (hy : X.N[i]? = some y) (hyl : X.env.scope.names.lookup y = some .local)
    (hsw : swapsWith (.DictComp kx vx [⟨tg, iter, ifs, 0⟩] scope pos) (some (.Name y py)) spos.line X.env = pure true) (hi : DI X tg iter mi) (ok : BlkOk X.N X.env.scope scope own)
    (hg : ∀ (s : Shared) (H : Hp) (C : Addr) (cl : List (Str × Addr)) (fp : List Addr), DGc (X.blk s H scope (compEnvC scope cl C X.env) fp) tg g ws) (ht : ∀ (s : Shared) (H : Hp) (C : Addr) (cl : List (Str × Addr)) (fp : List Addr), DTs (X.blk s H scope (compEnvC scope cl C X.env) fp) ifs mt)
    (hk : ∀ (s : Shared) (H : Hp) (C : Addr) (cl : List (Str × Addr)) (fp : List Addr), DE (X.blk s H scope (compEnvC scope cl C X.env) fp) kx mk)
    (he : ∀ (s : Shared) (H : Hp) (C : Addr) (cl : List (Str × Addr)) (fp : List Addr), DE (X.blk s H scope (compEnvC scope cl C X.env) fp) vx mv) (hws : own.map (·.2) = ws := by rfl) (hs : ∀ x, foldedSetIterable iter X.env x = pure x := by intro _; rfl) :
    DS X (.Assign [.Name y py] (.DictComp kx vx [⟨tg, iter, ifs, 0⟩] scope pos) spos) (sAsg (mDc mi g mt mk mv ws) (gN i)) := by
  subst hws
  exact ⟨ps_mono (ps_setDc hc hN hy hyl hsw hi.pi ok (fun s H C cl fp => (hg s H C cl fp).pg) (fun s H C cl fp => (ht s H C cl fp).pts) (fun s H C cl fp => (hk s H C cl fp).pe) (fun s H C cl fp => (he s H C cl fp).pe) hs) fun D σ H ⟨env, st, D0, re, rs, h, k1, _⟩ => by
    have h2 : lift X.K (mDc mi g mt mk mv (own.map (·.2))) σ H fun x H1 => gName i x σ H1 D.nx :=
      ⟨env, st, _, re, rs, h, fun d st' v H' q e r s => k1 _ st' _ H' q e ((re.mono e).set r i) s⟩
    exact lift_dc h2⟩

/-! ### a dict locked while it is walked -/
/-- the keys -/
def keyB : Key → D
  | .inl i => .int i
  | .inr x => .str x
def mLock (i : Nat) (m : ME) : ME := fun env st Q => ∃ p kvs, env[i]? = some (some (.ref p)) ∧ st p = some (.dic kvs) ∧ m env (put st p (.rod kvs)) fun d st' => st' p = some (.rod kvs) ∧ Q d (put st' p (.dic kvs))
theorem de_lock {e : Expr} {i : Nat} {m : ME} (he : DE X e m) : DE X e (mLock i m) :=
  ⟨pe_mono (pe_lock he.pe) fun σ H Q ⟨env, st, Q0, re, rs, ⟨p, kvs, _, e2, h⟩, k⟩ => by
    obtain ⟨ws, g, r⟩ := rs _ _ e2
    refine ⟨p, .dK ws, g, trivial, fun od => ?_⟩
    have ex : Ext H (upd H p (.frz od (.dK ws))) := .upd_mut (by rw [g]; trivial)
    refine lift_in (re.mono ex) (rs.put (o := .rod kvs) ex ⟨ws, od, upd_same, r.mono ex⟩) h fun d st' v H' ⟨q1, q2⟩ e' rd re' rs' => ?_
    have hp : H' p = some (.frz od (.dK ws)) := e'.f _ _ _ upd_same
    have notp : ∀ a xs, Rd H' a (.tup xs) → a ≠ p := by
      rintro a xs r rfl
      rcases r with r | ⟨_, r⟩ <;> rw [hp] at r <;> cases r
    have exT : ExtT H' (upd H' p (.dK ws)) := fun a xs r => by
      have ne := notp a xs r
      rcases r with r | ⟨u, r⟩
      · exact .inl (by rw [upd_ne ne]; exact r)
      · exact .inr ⟨u, by rw [upd_ne ne]; exact r⟩
    have rk : RelK X.K H' kvs ws := by
      obtain ⟨ws', u, g', r'⟩ := rs' _ _ q1
      rw [hp] at g'
      cases g'
      exact r'
    refine ⟨hp, k d _ v _ q2 ⟨fun a xs r => exT _ _ (e'.t _ _ (ex.t _ _ r)), fun a o u h0 => ?_⟩ (rd.monoT exT) fun b ob hb => ?_⟩
    · have ne : a ≠ p := by
        rintro rfl
        rw [g] at h0; cases h0
      rw [upd_ne ne]
      exact e'.f _ _ _ (ex.f _ _ _ h0)
    · by_cases qb : b = p
      · subst qb
        rw [put_same] at hb
        cases hb
        exact ⟨ws, upd_same, rk.monoT exT⟩
      · rw [put_ne qb] at hb
        exact (rs' b ob hb).keep exT fun u hu => by rw [upd_ne qb]; exact hu⟩
/-- the keys of a locked dict -/
def wKeys (m : ME) : MI := fun env st Q => m env st fun x st1 => ∃ p kvs, x = .ref p ∧ st1 p = some (.rod kvs) ∧ Q (kvs.map fun kv => keyB kv.1) (fun st => st p = some (.rod kvs)) st1
theorem RelK.getV {κ : Type} {K : PySem.W.Frag} {H : Hp} : ∀ {ds : List (κ × D)} {vs : List (κ × V)} {i : Nat} {k : κ} {v : V}, RelK K H ds vs → vs[i]? = some (k, v) → ∃ d, ds[i]? = some (k, d) ∧ RelD K H d v
  | _, _, _, _, _, .nil, e => by simp at e
  | _, _, 0, _, _, .cons r _, e => by simp at e; obtain ⟨rfl, rfl⟩ := e; exact ⟨_, rfl, r⟩
  | _, _, i + 1, k, v, .cons _ t, e => by
    obtain ⟨u, h1, h2⟩ := RelK.getV (i := i) (k := k) (v := v) t (by simpa using e)
    exact ⟨u, by simpa using h1, h2⟩
theorem keyB_rel {K : PySem.W.Frag} {H : Hp} (k : Key) : RelD K H (keyB k) (kV k) := by
  cases k <;> first | exact .int _ | exact .str _
theorem src_keys {K : PySem.W.Frag} {H0 : Hp} {p : Addr} {kvs : List (Key × D)} {ws : List (Key × V)} {u : Obj} (g : H0 p = some (.frz u (.dK ws))) (r : RelK K H0 kvs ws) :
    SrcJ K H0 (kvs.map fun kv => keyB kv.1) (fun st => st p = some (.rod kvs)) (Itk p u ws) where
  stop := fun i H st h e rs o => ⟨e.f _ _ _ g, by rw [r.length]; simpa using h⟩
  go := fun i H st h e rs o => ⟨e.f _ _ _ g, by rw [r.length]; simpa using h⟩
  yld := fun i H st x H' h e rs o y => by
    obtain ⟨rfl, k, v, hk, rfl⟩ := y
    obtain ⟨d, hd, _⟩ := r.getV hk
    exact ⟨keyB k, by simp [hd], keyB_rel k, fun b u z => z⟩
theorem di_keys {tg e : Expr} {m : ME} (he : DE X e m) : DI X tg e (wKeys m) :=
  ⟨pi_mono (pi_keys he.pe) fun σ H R ⟨env, st, Q0, re, rs, h, k⟩ => by
    refine lift_in re rs h fun x st1 x' H1 ⟨p, kvs, e, e2, q⟩ ex rx re1 rs1 => ?_
    subst e
    cases rx
    obtain ⟨ws, u, g, r⟩ := rs1 _ _ e2
    exact ⟨p, u, rfl, .inl ⟨ws, g, k _ _ st1 _ H1 q ex rs1 (src_keys g r)⟩⟩⟩
end

/-! ### a def of the text -/
/-- what is wanted behind a body -/
def endsOf (Q : DK) : DEnds := { nx := fun _ st => ∃ st2, Sub st2 st ∧ Q .non st2, rt := fun d st => ∃ st2, Sub st2 st ∧ Q d st2 }
def startE (N : Nat) (ds : List D) : Env := ds.map some ++ List.replicate (N - ds.length) none
/-- a def keeps its promise: t its body's reading -/
structure Keeps (n N : Nat) (sp : DSp) (t : MS) : Prop where
  len : ∀ ds st Q, sp ds st Q → ds.length = n
  run : ∀ ds st Q, sp ds st Q → t (endsOf Q) (startE N ds) st
theorem keeps_use {K : PySem.W.Frag} {n : Nat} {N : List Str} {sp : DSp} {t : MS} (h : Keeps n N.length sp t) {vs : List V} {H : Hp} {Q : VK} {E : XK} (hs : liftSp K sp vs H Q E) :
    liftS K t { nx := fun _ H' => Q .non H', rt := Q } (start N vs) H := by
  obtain ⟨ds, st, Q0, r, rs, hsp, k⟩ := hs
  refine ⟨startE N.length ds, st, endsOf Q0, .start N r, rs, h.run ds st Q0 hsp, ?_, ?_, ?_, ?_⟩
  · exact fun env' st' σ' H' ⟨st2, s, q⟩ e re' rs' => k _ st2 _ H' q e .non (rs'.sub s)
  · exact fun d st' v H' ⟨st2, s, q⟩ e r rs' => k _ st2 _ H' q e r (rs'.sub s)
  · exact fun _ _ _ _ q => q.elim
  · exact fun _ _ _ _ q => q.elim
theorem keeps_len {K : PySem.W.Frag} {n N : Nat} {sp : DSp} {t : MS} (h : Keeps n N sp t) {vs : List V} {H : Hp} {Q : VK} {E : XK} (hs : liftSp K sp vs H Q E) : vs.length = n := by
  obtain ⟨ds, st, Q0, r, rs, hsp, k⟩ := hs
  rw [← r.length]
  exact h.len _ _ _ hsp
end L2.DL

namespace L2.DL
open PySem PySem.Spec PyProof.Rows

/-! ### texts in their order -/
def ltS (x y : Str) : Bool := decide (x.cps.toList < y.cps.toList)
def leS (x y : Str) : Bool := !ltS y x
theorem str_ext {x y : Str} (h : x.cps.toList = y.cps.toList) : x = y := Str.ext' (Array.toList_inj.mp h)
theorem ltS_irrefl (x : Str) : ltS x x = false := by
  unfold ltS
  exact decide_eq_false (List.lt_irrefl _)
theorem ltS_trans {x y z : Str} (h : ltS x y = true) (k : ltS y z = true) : ltS x z = true := by
  unfold ltS at *
  exact decide_eq_true (List.lt_trans (of_decide_eq_true h) (of_decide_eq_true k))
theorem ltS_asymm {x y : Str} (h : ltS x y = true) : ltS y x = false := by
  cases e : ltS y x with
  | false => rfl
  | true => have := ltS_trans h e; rw [ltS_irrefl] at this; cases this
theorem ltS_tri {x y : Str} (h : ltS x y = false) (k : ltS y x = false) : x = y := by
  unfold ltS at *
  apply str_ext
  exact List.le_antisymm (List.not_lt.mp (of_decide_eq_false k)) (List.not_lt.mp (of_decide_eq_false h))
theorem leS_total (x y : Str) : (leS x y || leS y x) = true := by
  unfold leS
  cases e : ltS y x with
  | false => rfl
  | true => rw [ltS_asymm e]; rfl
theorem leS_trans {x y z : Str} (h : leS x y = true) (k : leS y z = true) : leS x z = true := by
  unfold leS at *
  cases e : ltS z x with
  | false => rfl
  | true =>
    exfalso
    have h1 : ltS y x = false := by simpa using h
    have h2 : ltS z y = false := by simpa using k
    cases e3 : ltS x y with
    | true =>
      have := ltS_trans e e3
      rw [h2] at this; cases this
    | false =>
      have := ltS_tri e3 h1
      subst this
      rw [h2] at e; cases e
theorem leS_antisymm {x y : Str} (h : leS x y = true) (k : leS y x = true) : x = y := by
  unfold leS at *
  exact ltS_tri (by simpa using k) (by simpa using h)
/-- a list sorted by text keys -/
def sortBy {α : Type} (f : α → Str) (l : List α) : List α := l.mergeSort fun x y => leS (f x) (f y)
theorem sortBy_perm {α : Type} (f : α → Str) (l : List α) : (sortBy f l).Perm l := List.mergeSort_perm ..
theorem sortBy_sorted {α : Type} (f : α → Str) (l : List α) : (sortBy f l).Pairwise fun x y => leS (f x) (f y) = true :=
  List.pairwise_mergeSort (le := fun x y => leS (f x) (f y)) (fun a b c h k => leS_trans h k) (fun a b => leS_total _ _) l
/-- two sorted rearrangements of one another with unlike keys are one -/
theorem sorted_uniq {α : Type} {f : α → Str} : ∀ {l m : List α}, l.Perm m → l.Pairwise (fun x y => leS (f x) (f y) = true) → m.Pairwise (fun x y => leS (f x) (f y) = true) → (∀ x ∈ l, ∀ y ∈ l, f x = f y → x = y) → l = m
  | [], m, p, _, _, _ => (List.nil_perm.mp p).symm ▸ rfl
  | x :: l, m, p, s, t, u => by
    cases m with
    | nil => exact absurd p.length_eq (by simp)
    | cons y m =>
      have hx : x ∈ y :: m := p.mem_iff.mp (List.mem_cons_self ..)
      have hy : y ∈ x :: l := p.mem_iff.mpr (List.mem_cons_self ..)
      have h1 : leS (f x) (f y) = true := by
        rcases List.mem_cons.mp hy with e | e
        · subst e
          unfold leS
          rw [ltS_irrefl]
          rfl
        · exact (List.pairwise_cons.mp s).1 y e
      have h2 : leS (f y) (f x) = true := by
        rcases List.mem_cons.mp hx with e | e
        · subst e
          unfold leS
          rw [ltS_irrefl]
          rfl
        · exact (List.pairwise_cons.mp t).1 x e
      have e := u x (List.mem_cons_self ..) y hy (leS_antisymm h1 h2)
      subst e
      rw [sorted_uniq (List.Perm.cons_inv p) (List.pairwise_cons.mp s).2 (List.pairwise_cons.mp t).2 fun a ha b hb => u a (List.mem_cons_of_mem _ ha) b (List.mem_cons_of_mem _ hb)]
theorem sortBy_eq {α : Type} {f : α → Str} {l m : List α} (p : m.Perm l) (s : m.Pairwise fun x y => leS (f x) (f y) = true) (u : ∀ x ∈ l, ∀ y ∈ l, f x = f y → x = y) : m = sortBy f l :=
  sorted_uniq (p.trans (sortBy_perm f l).symm) s (sortBy_sorted f l) fun a ha b hb => u a (p.mem_iff.mp ha) b (p.mem_iff.mp hb)
theorem ltCps_ltS (x y : Str) : ltCps x.cps.toList y.cps.toList = ltS x y := by
  unfold ltS
  have go : ∀ a b : List Nat, ltCps a b = decide (a < b) := by
    intro a
    induction a with
    | nil =>
      intro b
      cases b with
      | nil => simp [ltCps]
      | cons c b => simp [ltCps]
    | cons c a ih =>
      intro b
      cases b with
      | nil => simp [ltCps]
      | cons d b =>
        simp only [ltCps, ih, List.cons_lt_cons_iff]
        by_cases h : c < d
        · simp [h]
        · by_cases e : c = d
          · subst e; simp
          · have h2 : d < c := by omega
            simp [h, e]
  exact go _ _
theorem sortedS_pair : ∀ {l : List Str}, sortedS l = true → l.Pairwise fun x y => leS x y = true
  | [], _ => .nil
  | x :: l, h => by
    have go : ∀ (l : List Str) (p : Str), risingS p l = true → (∀ y ∈ l, leS p y = true) ∧ l.Pairwise fun x y => leS x y = true := by
      intro l
      induction l with
      | nil => exact fun p _ => ⟨fun y hy => (by cases hy), List.Pairwise.nil⟩
      | cons z l ih =>
        intro p h
        simp only [risingS, Bool.and_eq_true] at h
        obtain ⟨h1, h2⟩ := h
        rw [ltCps_ltS] at h1
        have hp : leS p z = true := h1
        obtain ⟨i1, i2⟩ := ih z h2
        refine ⟨fun y hy => ?_, List.pairwise_cons.mpr ⟨i1, i2⟩⟩
        rcases List.mem_cons.mp hy with e | e
        · subst e; exact hp
        · exact leS_trans hp (i1 y e)
    obtain ⟨a, b⟩ := go l x h
    exact List.pairwise_cons.mpr ⟨a, b⟩
theorem sortedS_eq {l m : List Str} (p : m.Perm l) (h : sortedS m = true) : m = sortBy id l := sortBy_eq p (sortedS_pair h) fun x _ y _ e => e

/-! ### sorted, of tuples that begin with unlike texts -/
end L2.DL
namespace SrtK
open PySem PySem.Calls PyProof.Rows SrtO
section
variable {prog : Program} {w : World} {A : Around} {E : Value → Shared → Prop} {s : Shared}
/-- a tuple that begins with a text -/
def Hd (h : Heap) (v : Value) (k : Str) : Prop := ∃ a o t rest n, v = .ref a ∧ h.get? a = some o ∧ o.cls = .type "tuple" ∧ o.data = .seq (Value.str k t :: rest).toArray n
theorem Hd.keeps {h h' : Heap} {v : Value} {k : Str} (p : Hd h v k) (g : ∀ b o, h.get? b = some o → o.cls = .type "tuple" → h'.get? b = some o) : Hd h' v k := by
  obtain ⟨a, o, t, rest, n, e, ho, hc, hd⟩ := p
  exact ⟨a, o, t, rest, n, e, g _ _ ho hc, hc, hd⟩
theorem lex_same {Q : Bool → Shared → Prop} {b fin : Bool} : ∀ (l : List Value) (i : Nat), Q fin s → PySem.W.KatLex prog w A b fin Q (l.zip l) i s
  | [], _, h => PySem.W.kat_nil h
  | v :: l, i, h => by
    rw [List.zip_cons_cons]
    refine PySem.W.kat_cons (SeqAt.EqAt.same v prog w _ _ ?_)
    exact PySem.W.kat_yes (lex_same l (i + 1) h)
theorem hd_cmp {vs : List Value} {k : Value → Str} (hp : ∀ v ∈ vs, Hd s.heap v (k v)) (hi : ∀ v ∈ vs, ∀ u ∈ vs, k v = k u → v = u) : Cmp prog w A s (tuples' true) (fun p => p.1 ∈ vs) (lt2 fun v u => L2.DL.ltS (k v) (k u)) := by
  intro p q hm hm'
  have h1 := hp _ hm
  have h2 := hp _ hm'
  show wpAny (model prog w) A (keyLt' (tuples' true) p.1 q.1) (fun r s' => s' = s ∧ r = L2.DL.ltS (k p.1) (k q.1)) (fun _ _ => False) s
  by_cases he : k p.1 = k q.1
  · have e := hi _ hm _ hm' he
    rw [← e, L2.DL.ltS_irrefl]
    obtain ⟨a, o, t, rest, n, e1, ho, hc, hd⟩ := h1
    rw [e1]
    refine PySem.W.kat_lt ho hd ho hd ?_
    refine lex_same _ 0 ?_
    exact ⟨rfl, by simp⟩
  · generalize k p.1 = x at h1 he ⊢
    generalize k q.1 = y at h2 he ⊢
    obtain ⟨a, o, t, rest, n, e1, ho, hc, hd⟩ := h1
    obtain ⟨a', o', t', rest', n', e1', ho', hc', hd'⟩ := h2
    rw [e1, e1']
    refine PySem.W.kat_lt ho hd ho' hd' ?_
    show PySem.W.KatLex prog w A true _ _ ((Value.str x t :: rest).zip (Value.str y t' :: rest')) 0 s
    rw [List.zip_cons_cons]
    refine PySem.W.kat_cons (SeqAt.EqAt.str_str x t y t' prog w _ _ ?_)
    have e2 : (x == y) = false := by simpa using he
    rw [e2]
    exact PySem.W.kat_no (oneLt_str ⟨rfl, rfl⟩)
theorem firsts_of {h : Heap} {k : Value → Str} : ∀ {vs : List Value}, (∀ v ∈ vs, Hd h v (k v)) → ∃ fs : List Value, PySem.W.KatTups h vs fs ∧ fs.length = vs.length ∧ ∀ f ∈ fs, ∃ x t, f = Value.str x t
  | [], _ => ⟨[], PySem.W.KatTups.nil, rfl, fun _ hm => by simp at hm⟩
  | v :: vs, hp => by
    obtain ⟨fs, h1, h2, h3⟩ := firsts_of (vs := vs) fun v' hm => hp v' (List.mem_cons_of_mem _ hm)
    obtain ⟨a, o, t, rest, n, e, ho, hc, hd⟩ := hp v (List.mem_cons_self ..)
    generalize k v = kv at hd
    subst e
    refine ⟨.str kv t :: fs, PySem.W.KatTups.cons ho hc hd (by simp) h1, by rw [List.length_cons, List.length_cons, h2], fun f hm => ?_⟩
    rcases List.mem_cons.mp hm with rfl | hm
    · exact ⟨kv, t, rfl⟩
    · exact h3 f hm
theorem hd_sortable {a : Addr} {vs : List Value} {k : Value → Str} (h0 : 0 < vs.length) (hp : ∀ v ∈ vs, Hd s.heap v (k v)) (hi : ∀ v ∈ vs, ∀ u ∈ vs, k v = k u → v = u) (ha : ∀ o, s.heap.get? a = some o → o.cls ≠ .type "tuple") : SortableO prog w A s a vs fun v u => L2.DL.ltS (k v) (k u) := by
  intro h' keep
  have hp' : ∀ v ∈ vs, Hd h' v (k v) := fun v hm => (hp v hm).keeps fun b o e c => keep b o (fun z => by subst z; exact ha o e c) e
  obtain ⟨fs, h1, h2, h3⟩ := firsts_of hp'
  refine ⟨tuples' true, fun Q E hq => ?_, hd_cmp hp' hi⟩
  refine PySem.W.kat_kind (T := .type "str") h1 (by omega) (fun f hm => ?_) (by rfl) ?_
  · obtain ⟨x, t, rfl⟩ := h3 f hm
    exact PySem.W.Looks.now
  · have e : (Value.type "str" != Value.type "tuple") = true := by first | decide +kernel | rfl | decide
    rw [e]
    exact hq
theorem swo_str (k : Value → Str) : Swo fun v u => L2.DL.ltS (k v) (k u) := by
  refine ⟨fun x y h => L2.DL.ltS_asymm h, fun x y z h1 h2 => ?_⟩
  have a : L2.DL.leS (k x) (k y) = true := by unfold L2.DL.leS; rw [h1]; rfl
  have b : L2.DL.leS (k y) (k z) = true := by unfold L2.DL.leS; rw [h2]; rfl
  have c := L2.DL.leS_trans a b
  unfold L2.DL.leS at c
  simpa using c
theorem sorted_hd {l : Addr} {vs : List Value} {k : Value → Str} {Q : Value → Shared → Prop} (hl : s.heap.IsList l vs.toArray) (hz : vs.length ≤ sizeLine) (hp : ∀ v ∈ vs, Hd s.heap v (k v)) (hi : ∀ v ∈ vs, ∀ u ∈ vs, k v = k u → v = u)
    (h : ∀ (h' : Heap) (d : Addr) (out : List Value), Srtd (fun v u => L2.DL.ltS (k v) (k u)) out → Stb (fun v u => L2.DL.ltS (k v) (k u)) out vs → (∀ b o, s.heap.get? b = some o → h'.get? b = some o) → s.heap.objs.size ≤ d → (∃ n, h'.get? d = some (seqObj "list" out.toArray n)) → Q (.ref d) { s with heap := h' }) :
    wpAny (model prog w) A (call (.builtin "sorted") [.ref l]) Q E s := by
  refine sorted_ord (swo_str k) hl hz (fun h2 h₁ a ha kk => ?_) fun out hs hb => ?_
  · refine hd_sortable (s := { s with heap := h₁ }) (by omega) (fun v hm => (hp v hm).keeps fun b o e _ => (kk b o e).2) hi fun o e => ?_
    have e' : some o = some (seqObj "list" vs.toArray 0) := e.symm.trans ha
    cases e'
    intro c
    exact absurd (Value.type.inj c) (by decide)
  · exact h _ _ out hs hb (fun b o e => sortedAll_old e) (Nat.le_succ _) (sortedAll_at s.heap vs out.toArray)
end
end SrtK

/-! sorted of a tuple of texts -/
namespace SrtT
open PySem PySem.Spec PyProof.Rows L2
section
variable {P : Program} {w : World} {A : Around} {E : Value → Shared → Prop} {s : Shared}
/-- the list that is laid for the items -/
abbrev laid (h : Heap) (vs : List Value) : Heap := (h.push (seqObj "list" #[] 0)).update h.objs.size (Obj.mapSeq (· ++ vs.toArray))
theorem collect_tuple {l : Addr} {vs : List Value} {Q : List Value → Shared → Prop} (hl : s.heap.IsTuple l vs.toArray) (fin : Q vs { s with heap := laid s.heap vs }) (few : vs.length ≤ sizeLine) :
    wpAny (model P w) A (collect (.ref l)) Q E s := by
  obtain ⟨o, ho, hc, n, hd⟩ := id hl
  unfold collect
  refine wpAny_bind (wpAny_runValue (codeAny_builtin entry_proto_collect' ?_))
  show wpAny _ _ (newList [] >>= fun r => again (.builtin "list.__iadd__" ⟨[r, .ref l], []⟩)) _ _ s
  refine wpAny_bind (wpAny_newList (wpAny_pure ⟨Code.quiet_builtin _ (by decide +kernel), codeAny_builtin entry_list_iadd' ?_⟩))
  show wpAny _ _ (Builtin.List.listExtendWith (.ref s.heap.objs.size) (.ref l) (.ref s.heap.objs.size)) _ _ { s with heap := s.heap.push (seqObj "list" #[] 0) }
  unfold Builtin.List.listExtendWith
  have ho2 : (s.heap.push (seqObj "list" #[] 0)).get? l = some o := Heap.get?_push_of_some _ ho
  refine wpAny_bind (wpAny_typeOf (T := "tuple") ⟨o, ho2, hc⟩ ?_)
  rw [if_pos (by rw [show (Value.type "tuple" == Value.type "tuple") = true from rfl]; simp)]
  refine wpAny_bind (listItems_at ho2 hd (wpAny_bind (listItems_at (xs := #[]) (n := 0) (Heap.get?_push_size _ rfl) rfl ?_)))
  rw [if_neg (by simp)]
  refine wpAny_bind (listUpdate_at (xs := #[]) (n := 0) (Heap.get?_push_size _ rfl) rfl ?_ (Nat.zero_le _) (by show (#[] ++ vs.toArray).size ≤ sizeLine + 1; simp; omega))
  refine wpAny_pure (wpAny_bind (wpAny_load (get?_update_seq (Heap.get?_push_size _ rfl) _) ?_))
  show wpAny _ _ (pure ((#[] : Array Value) ++ vs.toArray).toList) Q E _
  rw [show ((#[] : Array Value) ++ vs.toArray).toList = vs by simp]
  exact wpAny_pure fin
theorem sort {l : Addr} {vs : List Value} {ks : List Str} {Q : Value → Shared → Prop} (hl : s.heap.IsTuple l vs.toArray) (are : StrsAre vs ks) (few : vs.length < 64)
    (fin : ∀ (out : Array Value) (ys : List Str), StrsAre out.toList ys → ys.Perm ks → sortedS ys = true → Q (.ref (s.heap.objs.size + 1)) { s with heap := sortedAll s.heap vs out }) :
    wpAny (model P w) A (call (.builtin "sorted") [.ref l]) Q E s := by
  refine Calls.call_function_entry kind_sorted plain_sorted entry_sorted (args_sorted1 _) ?_
  unfold Builtin.«sorted»
  refine wpAny_bind (m := checkCount "sorted" 1 1 _) (wpAny_pure ?_)
  refine wpAny_bind (collect_tuple hl ?_ (by rw [sizeLine_eq]; omega))
  refine wpAny_bind (wpAny_newList ?_ (by rw [sizeLine_eq]; omega))
  have sz : (laid s.heap vs).objs.size = s.heap.objs.size + 1 := by unfold laid; rw [Heap.size_update, size_push']
  have gL : ((laid s.heap vs).push (seqObj "list" vs.toArray 0)).get? (s.heap.objs.size + 1) = some (seqObj "list" vs.toArray 0) := by
    rw [← sz]
    exact Heap.get?_push_size _ rfl
  show wpAny _ _ _ _ _ { s with heap := (laid s.heap vs).push (seqObj "list" vs.toArray 0) }
  rw [sz]
  refine wpAny_bind (wpAny_holding (wpAny_call_entry slot_list_sort ⟨_, gL, rfl⟩ entry_list_sort (list_sort_treeK strKind_oneLt gL are.keysOf (fun v₁ v₂ rest e => keyKind_strs (by rw [← e]; exact are)) few fun st' a1 a2 => ⟨_, rfl, ?_⟩) (args_list_sort _)))
  obtain ⟨ys, r1, r2, r3⟩ := sorted_out_str are a1 a2
  exact wpAny_pure ⟨_, rfl, fin _ ys r1 r2 r3⟩
end
section
variable {X : Cx}
def rSrt (K : PySem.W.Frag) : List V → Hp → VK → Prop := fun xs H Q => ∃ (a : Addr) (ks : List Str), xs = [V.ref a] ∧ SqT K H a (ks.map V.str) ∧ ks.length < 64 ∧ ∀ ys p, ys.Perm ks → sortedS ys = true → H p = none → Q (.ref p) (upd H p (.lst (ys.map V.str)))
theorem cr_srt : CallR X (.builtin "sorted") (rSrt X.K) := by
  intro pins s σ H xs us Q I r ⟨a, ks, e, hs, few, q⟩
  subst e
  obtain ⟨its, rv, p, hz⟩ := I.tuple hs
  have hp : s.heap.IsTuple a its.toArray := p
  rw [Vals.ref1 r]
  have len := rv.length
  rw [List.length_map] at len
  refine sort hp rv.strs (by rw [← len]; exact few) fun out ys h1 h2 h3 => ?_
  obtain ⟨c, gc⟩ := sortedAll_at s.heap its out
  have few2 : (ys.map V.str).length ≤ sizeLine := by rw [List.length_map, h2.length_eq, sizeLine_eq]; omega
  exact ⟨.ref _, upd H (s.heap.objs.size + 1) (.lst (ys.map V.str)), I.laid (t' := s.toks) (fun _ _ => sortedAll_old) (Nat.le_succ _) ⟨few2, out.toList, c, vals_of_strs h1, gc⟩, rfl, q ys _ h2 h3 (I.hok.fresh (Nat.le_succ _))⟩
end
end SrtT

namespace L2.DL
open PySem PySem.Spec PyProof.Rows

theorem perm_map_inv {α β : Type} {f : α → β} {l m : List β} (h : l.Perm m) : ∀ (L : List α), m = L.map f → ∃ L' : List α, L'.Perm L ∧ l = L'.map f := by
  induction h with
  | nil =>
    intro L e
    cases L with
    | nil => exact ⟨[], .refl _, rfl⟩
    | cons a L => cases e
  | cons x h ih =>
    intro L e
    cases L with
    | nil => cases e
    | cons a L =>
      simp only [List.map_cons, List.cons.injEq] at e
      obtain ⟨e1, e2⟩ := e
      obtain ⟨L', p, e3⟩ := ih L e2
      exact ⟨a :: L', p.cons a, by simp [e1, e3]⟩
  | swap x y l =>
    intro L e
    cases L with
    | nil => cases e
    | cons a L =>
      cases L with
      | nil => simp at e
      | cons b L =>
        simp only [List.map_cons, List.cons.injEq] at e
        obtain ⟨e1, e2, e3⟩ := e
        exact ⟨b :: a :: L, List.Perm.swap a b L, by simp [e1, e2, e3]⟩
  | trans h1 h2 ih1 ih2 =>
    intro L e
    obtain ⟨L1, p1, e1⟩ := ih2 L e
    obtain ⟨L2, p2, e2⟩ := ih1 L1 e1
    exact ⟨L2, p2.trans p1, e2⟩
theorem nodup_inj {α β : Type} {f : α → β} : ∀ {l : List α}, (l.map f).Nodup → ∀ {a b : α}, a ∈ l → b ∈ l → f a = f b → a = b
  | [], _, _, _, h, _, _ => by cases h
  | x :: l, n, a, b, ha, hb, e => by
    rw [List.map_cons, List.nodup_cons] at n
    rcases List.mem_cons.mp ha with e1 | ha
    · subst e1
      rcases List.mem_cons.mp hb with e2 | hb
      · exact e2.symm
      · exact absurd (List.mem_map.mpr ⟨b, hb, e.symm⟩) n.1
    · rcases List.mem_cons.mp hb with e2 | hb
      · exact absurd (List.mem_map.mpr ⟨a, ha, by rw [e, e2]⟩) n.1
      · exact nodup_inj n.2 ha hb e
/-- a pair's datum: a text and what follows -/
def pairD (p : Str × List D) : D := .tup (.str p.1 :: p.2)
/-- the values of a list, each with its pair -/
theorem zip_rel {K : PySem.W.Frag} {H : Hp} : ∀ {ps : List (Str × List D)} {vs : List V} {us : List Value}, RelDs K H (ps.map pairD) vs → Vals vs us →
    ∃ L : List (Value × (Str × List D)), L.map (·.1) = us ∧ L.map (·.2) = ps ∧ ∀ q ∈ L, ∃ t, q.1 = Value.ref t ∧ RelD K H (pairD q.2) (.ref t)
  | [], _, _, .nil, .nil => ⟨[], rfl, rfl, fun _ h => by cases h⟩
  | p :: ps, _, _, .cons r t, .cons rv tv => by
    obtain ⟨L, e1, e2, h⟩ := zip_rel t tv
    obtain ⟨a, ws, rfl, _, _⟩ := r.tup_of
    cases rv
    refine ⟨(Value.ref a, p) :: L, by simp [e1], by simp [e2], fun q hq => ?_⟩
    rcases List.mem_cons.mp hq with rfl | hq
    · exact ⟨a, rfl, r⟩
    · exact h q hq
theorem rel_unzip {K : PySem.W.Frag} {H : Hp} : ∀ {L : List (Value × (Str × List D))}, (∀ q ∈ L, ∃ t, q.1 = Value.ref t ∧ RelD K H (pairD q.2) (.ref t)) →
    ∃ vs, RelDs K H ((L.map (·.2)).map pairD) vs ∧ Vals vs (L.map (·.1))
  | [], _ => ⟨[], .nil, .nil⟩
  | q :: L, h => by
    obtain ⟨vs, r, t⟩ := rel_unzip (L := L) fun q' hq => h q' (List.mem_cons_of_mem _ hq)
    obtain ⟨a, e, r1⟩ := h q (List.mem_cons_self ..)
    exact ⟨.ref a :: vs, .cons r1 r, .cons e t⟩
/-- sorted(x): a dict's text keys; a list of texts; a list of tuples that begin with unlike texts -/
def oSorted : MC
  | [.ref a], st, Q => (∃ kvs ks, rdD (st a) = some kvs ∧ kvs.map (·.1) = ks.map Sum.inr ∧ ks.length < 64 ∧ ∀ p, Nf st p → Q (.ref p) (put st p (.lst ((sortBy id ks).map D.str)))) ∨
      (∃ ks, rdL (st a) = some (ks.map D.str) ∧ ks.length < 64 ∧ ∀ p, Nf st p → Q (.ref p) (put st p (.lst ((sortBy id ks).map D.str)))) ∨
      (∃ ps, rdL (st a) = some (ps.map pairD) ∧ (ps.map (·.1)).Nodup ∧ ∀ p, Nf st p → Q (.ref p) (put st p (.lst ((sortBy (·.1) ps).map pairD))))
  | [.tup xs], st, Q => ∃ ks, xs = ks.map D.str ∧ ks.length < 64 ∧ ∀ p, Nf st p → Q (.ref p) (put st p (.lst ((sortBy id ks).map D.str)))
  | _, _, _ => False
section
variable {X : Cx}
theorem sorted_hdV {pins : List (Addr × Obj)} {s : Shared} {σ : L2.St} {H : Hp} {a : Addr} {st : Sto} {ps : List (Str × List D)} {Q : VK} (I : Inv X pins σ H s) (rs : RelSto X.K H st) (e : rdL (st a) = some (ps.map pairD)) (nd : (ps.map (·.1)).Nodup)
    (h : ∀ p vs, H p = none → RelDs X.K H ((sortBy (·.1) ps).map pairD) vs → Q (.ref p) (upd H p (.lst vs))) :
    wpAny (model X.prog X.w) X.A (call (.builtin "sorted") [.ref a]) (EP X pins σ Q) X.xe s := by
  obtain ⟨vs, g, r⟩ := rs.rdL e
  obtain ⟨its, rv, hl, hz⟩ := I.list g
  obtain ⟨L, e1, e2, hL⟩ := zip_rel r rv
  have inj : ∀ q ∈ L, ∀ q' ∈ L, q.1 = q'.1 → q.2.1 = q'.2.1 := fun q hq q' hq' e => by
    obtain ⟨t, e3, r3⟩ := hL q hq
    obtain ⟨t', e4, r4⟩ := hL q' hq'
    rw [e, e4] at e3
    cases e3
    obtain ⟨b, ws, eb, g1, s1⟩ := r3.tup_of
    cases eb
    obtain ⟨b', ws', eb', g2, s2⟩ := r4.tup_of
    cases eb'
    have ew := I.tuple_inj g1 g2
    subst ew
    generalize q.2 = x at s1 ⊢
    generalize q'.2 = y at s2 ⊢
    obtain ⟨x1, x2⟩ := x
    obtain ⟨y1, y2⟩ := y
    cases s1 with
    | cons s1 _ =>
      cases s2 with
      | cons s2 _ =>
        have a1 := s1.str_of
        have a2 := s2.str_of
        rw [a1] at a2
        exact V.str.inj a2
  obtain ⟨k, hk⟩ : ∃ k : Value → Str, ∀ q ∈ L, k q.1 = q.2.1 := by
    classical
    refine ⟨fun u => if h : ∃ q, q ∈ L ∧ q.1 = u then (Classical.choose h).2.1 else Str.empty, fun q hq => ?_⟩
    have ex : ∃ q', q' ∈ L ∧ q'.1 = q.1 := ⟨q, hq, rfl⟩
    simp only [dif_pos ex]
    obtain ⟨c1, c2⟩ := Classical.choose_spec ex
    exact inj _ c1 _ hq c2
  have ndL : (L.map fun q => q.2.1).Nodup := by
    have : (L.map fun q => q.2.1) = ps.map (·.1) := by rw [← e2, List.map_map]; rfl
    rw [this]
    exact nd
  refine SrtK.sorted_hd (k := k) hl.isList (by rw [← rv.length]; exact hz) (fun v hv => ?_) (fun v hv u hu ek => ?_) fun h' d out h1 h2 kp hd hn => ?_
  · rw [← e1] at hv
    obtain ⟨q, hq, rfl⟩ := List.mem_map.mp hv
    rw [hk q hq]
    obtain ⟨t, e3, r3⟩ := hL q hq
    obtain ⟨b, ws, eb, g1, s1⟩ := r3.tup_of
    cases eb
    cases s1 with
    | cons s1 s2 =>
      cases s1
      obtain ⟨its2, rv2, ⟨o, ho, hc, n, hd⟩, _⟩ := I.tuple g1
      cases rv2 with
      | cons q1 q2 =>
        obtain ⟨tk, rfl⟩ := q1
        exact ⟨t, o, tk, _, n, e3, ho, hc, hd⟩
  · rw [← e1] at hv hu
    obtain ⟨q, hq, rfl⟩ := List.mem_map.mp hv
    obtain ⟨q', hq', rfl⟩ := List.mem_map.mp hu
    rw [hk q hq, hk q' hq'] at ek
    exact congrArg (·.1) (nodup_inj ndL hq hq' ek)
  · obtain ⟨L', pL, eL⟩ := perm_map_inv h2.perm L e1.symm
    obtain ⟨n, hn⟩ := hn
    obtain ⟨ws, rD, rV⟩ := rel_unzip (L := L') fun q hq => hL q (pL.mem_iff.mp hq)
    rw [← eL] at rV
    have es : L'.map (·.2) = sortBy (·.1) ps := by
      refine sortBy_eq ?_ ?_ fun x hx y hy e => nodup_inj nd hx hy e
      · rw [← e2]
        exact pL.map _
      · rw [List.pairwise_map]
        have h1' : out.Pairwise fun x y => leS (k x) (k y) = true := h1.imp fun {x y} (hxy : ltS (k y) (k x) = false) => by unfold leS; rw [hxy]; rfl
        rw [eL, List.pairwise_map] at h1'
        refine h1'.imp_of_mem fun {x y} hx hy hxy => ?_
        rw [hk x (pL.mem_iff.mp hx), hk y (pL.mem_iff.mp hy)] at hxy
        exact hxy
    rw [es] at rD
    refine ⟨.ref d, upd H d (.lst ws), I.laid (t' := s.toks) kp hd ⟨?_, out, n, rV, hn⟩, rfl, h d ws (I.hok.fresh hd) rD⟩
    have l1 := rV.length
    have l2 := h2.perm.length_eq
    have l3 := rv.length
    omega
theorem callr_or {f : Value} {r r' : List V → Hp → VK → Prop} (h : CallR X f r) (h' : CallR X f r') : CallR X f (fun xs H Q => r xs H Q ∨ r' xs H Q) := h.or h'
theorem dc_sorted (hc : X.calm = true) : DC X (.builtin "sorted") oSorted := by
  refine ⟨fun pins s σ H xs us Q I rx ⟨ds, st, Q0, rd, rs, h, k⟩ => ?_⟩
  unfold oSorted at h
  split at h
  · cases rd with
    | cons r t =>
      cases t; cases r
      rcases h with ⟨kvs, ks, e, ek, hl, h⟩ | ⟨ks, e, hl, h⟩ | ⟨ps, e, nd, h⟩
      · obtain ⟨ws, g, rk⟩ := rs.rdD e
        refine call_sortedD hc pins s σ H _ us Q I rx ⟨_, ws, ks, rfl, g, by rw [rk.keys]; exact ek, hl, fun ys p hp hs hn => ?_⟩
        have ey := sortedS_eq hp hs
        subst ey
        have ex : Ext H (upd H p (.lst ((sortBy id ks).map V.str))) := .upd_new hn
        exact k _ _ _ _ (h p (rs.fresh hn)) ex (.ref p) (rs.put (o := .lst ((sortBy id ks).map D.str)) ex ⟨_, upd_same, .of_strs _⟩)
      · obtain ⟨ws, g, r⟩ := rs.rdL e
        have ew := r.strs
        subst ew
        refine cr_sortedS pins s σ H _ us Q I rx ⟨_, ks, rfl, g, hl, fun ys p hp hs hn => ?_⟩
        have ey := sortedS_eq hp hs
        subst ey
        have ex : Ext H (upd H p (.lst ((sortBy id ks).map V.str))) := .upd_new hn
        exact k _ _ _ _ (h p (rs.fresh hn)) ex (.ref p) (rs.put (o := .lst ((sortBy id ks).map D.str)) ex ⟨_, upd_same, .of_strs _⟩)
      · cases rx with
        | cons rv rt =>
          cases rt
          cases rv
          refine sorted_hdV I rs e nd fun p vs hn r => ?_
          have ex : Ext H (upd H p (.lst vs)) := .upd_new hn
          exact k _ _ _ _ (h p (rs.fresh hn)) ex (.ref p) (rs.put (o := .lst ((sortBy (·.1) ps).map pairD)) ex ⟨_, upd_same, r.mono ex⟩)
  · cases rd with
    | cons r t =>
      cases t
      obtain ⟨ks, rfl, hl, h⟩ := h
      obtain ⟨a, vs, rfl, g, r2⟩ := r.tup_of
      have ew := r2.strs
      subst ew
      refine SrtT.cr_srt pins s σ H _ us Q I rx ⟨a, ks, rfl, g, hl, fun ys p hp hs hn => ?_⟩
      have ey := sortedS_eq hp hs
      subst ey
      have ex : Ext H (upd H p (.lst ((sortBy id ks).map V.str))) := .upd_new hn
      exact k _ _ _ _ (h p (rs.fresh hn)) ex (.ref p) (rs.put (o := .lst ((sortBy id ks).map D.str)) ex ⟨_, upd_same, .of_strs _⟩)
  · exact h.elim

/-! ### isinstance of built-in classes -/
def tyD (st : Sto) : D → Option String
  | .non => some "NoneType"
  | .bl _ => some "bool"
  | .int _ => some "int"
  | .str _ => some "str"
  | .tup _ => some "tuple"
  | .ref a => (match st a with
    | some (.lst _) => some "list"
    | some (.dic _) => some "dict"
    | some (.rod _) => some "dict"
    | _ => none)
  | .ty _ => none
def isiB (t n : String) : Bool := t == n || (t == "bool" && n == "int")
def tyNames : List String := ["NoneType", "bool", "int", "str", "tuple", "list", "dict"]
theorem kit_all : ∀ t ∈ tyNames, ∀ n ∈ ["int", "str", "bool", "tuple", "list", "dict"], kitB t n = some (isiB t n) := by decide +kernel
theorem tyD_mem {st : Sto} {d : D} {t : String} (h : tyD st d = some t) : t ∈ tyNames := by
  unfold tyD at h
  split at h <;> try (simp only [Option.some.injEq] at h; subst h; decide)
  · split at h <;> simp only [Option.some.injEq, reduceCtorEq] at h <;> subst h <;> decide
  · cases h
theorem tyD_rel {K : PySem.W.Frag} {H : Hp} {st : Sto} {d : D} {v : V} {t : String} (rs : RelSto K H st) (r : RelD K H d v) (h : tyD st d = some t) : TyX K H v (.type t) := by
  cases d with
  | non => cases r; simp only [tyD, Option.some.injEq] at h; subst h; exact .base .non
  | bl b => cases r; simp only [tyD, Option.some.injEq] at h; subst h; exact .base (.bl b)
  | int b => cases r; simp only [tyD, Option.some.injEq] at h; subst h; exact .base (.int b)
  | str b => cases r; simp only [tyD, Option.some.injEq] at h; subst h; exact .base (.str b)
  | ty n => simp [tyD] at h
  | tup ds =>
    simp only [tyD, Option.some.injEq] at h; subst h
    obtain ⟨a, vs, rfl, g, _⟩ := r.tup_of
    rcases g with (g | ⟨o, g⟩) | ⟨o, its, n, hk, hc, _⟩
    · exact .base (.tup g)
    · exact .fTuple g
    · exact .kTuple hk hc
  | ref a =>
    cases r
    simp only [tyD] at h
    split at h
    · rename_i xs e
      simp only [Option.some.injEq] at h; subst h
      obtain ⟨vs, g, _⟩ := rs _ _ e
      exact .base (.lst g)
    · rename_i xs e
      simp only [Option.some.injEq] at h; subst h
      obtain ⟨vs, g, _⟩ := rs _ _ e
      exact .base (.dK g)
    · rename_i xs e
      simp only [Option.some.injEq] at h; subst h
      obtain ⟨vs, u, g, _⟩ := rs _ _ e
      exact .fDict g
    · cases h
def oIsi : MC
  | [x, .ty n], st, Q => n ∈ ["int", "str", "bool", "tuple", "list", "dict"] ∧ ∃ t, tyD st x = some t ∧ Q (.bl (isiB t n)) st
  | _, _, _ => False
theorem dc_isi : DC X (.builtin "isinstance") oIsi :=
  ⟨callr_mono call_isi fun xs H Q ⟨ds, st, Q0, rx, rs, h, k⟩ => by
    unfold oIsi at h
    split at h
    · cases rx with
      | cons r t =>
        cases t with
        | cons r2 t =>
          cases t; cases r2
          obtain ⟨hn, t, ht, h⟩ := h
          exact ⟨_, _, .type t, .type _, isiB t _, rfl, .ty _, tyD_rel rs r ht, kit_ty (kit_all t (tyD_mem ht) _ hn), k _ st _ H h .refl (.bl _) rs⟩
    · exact h.elim⟩
/-- isinstance(x, (T, ..)) -/
theorem kitAny_ty {K : PySem.W.Frag} {t : String} (ht : t ∈ tyNames) : ∀ {ns : List String}, (∀ n ∈ ns, n ∈ ["int", "str", "bool", "tuple", "list", "dict"]) → PySem.W.kitAny K (.type t) (ns.map Value.type) = some (ns.any (isiB t))
  | [], _ => kitAny_nil
  | n :: ns, h => by
    have h1 := kit_all t ht n (h n (List.mem_cons_self ..))
    have ih := kitAny_ty (K := K) ht (ns := ns) fun m hm => h m (List.mem_cons_of_mem _ hm)
    rw [List.map_cons, List.any_cons]
    refine kitAny_cons (kit_ty h1) (fun e => ?_) (fun e => by rw [e]; rfl)
    rw [e, Bool.false_or]
    exact ih
structure DTys (X : Cx) (es : List Expr) (ns : List String) : Prop where
  pa : PA X es (fun σ H Q => Q (ns.map V.ty) H)
theorem dtys_nil : DTys X [] [] := ⟨pa_nil⟩
theorem dtys_cons {e : Expr} {es : List Expr} {n : String} {ns : List String} (he : PE X e (tC (.ty n))) (hr : DTys X es ns) (hs : starEach (e :: es) X.env = (false, eval e X.env) :: starEach es X.env := by rfl) : DTys X (e :: es) (n :: ns) :=
  ⟨pa_mono (pa_cons he hr.pa hs) fun σ H Q h => h⟩
theorem pe_tyN {x : Str} {n : String} {pos : Pos} (hg : Gl X x) (hm : X.mg x = none) (hv : bootBuiltins x = some (.type n)) (hn : x ≠ "__name__" := by decide) (hd : (x == ("__debug__" : Str)) = false := by decide) : PE X (.Name x pos) (tC (.ty n)) := pe_bltn hg hm hv rfl hn hd
def mIsi (ns : List String) (m : ME) : ME := fun env st Q => m env st fun x st1 => ∃ t, tyD st1 x = some t ∧ Q (.bl (ns.any (isiB t))) st1
theorem paired_tys : ∀ ns : List String, Paired ClsV (ns.map V.ty) (ns.map Value.type)
  | [] => .nil
  | n :: ns => .cons (.ty n) (paired_tys ns)
theorem de_isiT {e : Expr} {es : List Expr} {m : ME} {ns : List String} {p pos tpos : Pos} {k1 : Nat} (hns : ∀ n ∈ ns, n ∈ ["int", "str", "bool", "tuple", "list", "dict"]) (hlen : ns.length ≤ 100) (hg : Gl X "isinstance") (hm : X.mg "isinstance" = none) (he : DE X e m) (hes : DTys X es ns)
    (hs : starEach [e, .Tuple es k1 tpos] X.env = (false, eval e X.env) :: starEach [.Tuple es k1 tpos] X.env := by rfl) (hs2 : starEach [.Tuple es k1 tpos] X.env = (false, eval (.Tuple es k1 tpos) X.env) :: starEach [] X.env := by rfl) (hpl : (backTo pos (starEach [.Tuple es k1 tpos] X.env)).any (·.1) = false := by rfl) :
    DE X (.Call (.Name "isinstance" p) [e, .Tuple es k1 tpos] [] pos) (mIsi ns m) :=
  ⟨pe_mono (pe_callB (call_isiT (X := X)) hg hm boot_isinstance (pa_cons he.pe (pa_cons (pe_tup hes.pa) pa_nil hs2) hs) (by decide) (by decide) hs hpl) fun σ H Q ⟨env, st, Q0, re, rs, h, k⟩ => by
    refine lift_in re rs h fun x st1 x' H1 ⟨t, ht, q⟩ ex rx re1 rs1 => ?_
    refine ⟨by rw [List.length_map]; exact Nat.le_trans hlen (by decide), fun q1 hq => ?_⟩
    have ex2 : Ext H1 (upd H1 q1 (.tup (ns.map V.ty))) := .upd_new hq
    exact ⟨x', q1, ns.map V.ty, .type t, ns.map Value.type, ns.any (isiB t), rfl, upd_same, paired_tys ns, tyD_rel (rs1.new hq) (rx.mono ex2) ht, kitAny_ty (tyD_mem ht) hns, k _ st1 _ _ q (ex.trans ex2) (.bl _) (rs1.new hq)⟩⟩

/-! ### small rules for the printed derivations -/
theorem dv (i : Nat) {x : Str} {pos : Pos} (hN : X.N[i]? = some x := by rfl) (hv : Vis X.env.scope x := by first | exact Or.inl rfl | exact Or.inr (Or.inl rfl) | exact Or.inr (Or.inr rfl)) (hd : (x == ("__debug__" : Str)) = false := by decide)
    (hcd : (x == ("__classdict__" : Str)) = false := by decide) : DE X (.Name x pos) (mVar i) := de_var hN hv hd hcd
theorem de_neg {pos : Pos} {i : Int} {j pos'} : DE X (.UnaryOp .USub (.Constant (.int i) j pos') pos) (mC (.int (-i))) :=
  ⟨pe_mono (pe_un un_neg pe_int) fun σ H Q ⟨env, st, Q0, re, rs, h, k⟩ => ⟨i, rfl, k _ st _ H h .refl (.int _) rs⟩⟩
theorem de_gint {x : Str} {pos : Pos} {i : Int} (hm : ∃ t, X.mg x = some (.int i t)) (hg : Gl X x := by rfl) (hd : (x == ("__debug__" : Str)) = false := by decide) : DE X (.Name x pos) (mC (.int i)) := by
  obtain ⟨t, hm⟩ := hm
  exact de_glob (v := .int i) hg hm ⟨t, rfl⟩ (fun H => .int i) hd
theorem de_gstr {x : Str} {pos : Pos} {z : Str} (hm : ∃ t, X.mg x = some (.str z t)) (hg : Gl X x := by rfl) (hd : (x == ("__debug__" : Str)) = false := by decide) : DE X (.Name x pos) (mC (.str z)) := by
  obtain ⟨t, hm⟩ := hm
  exact de_glob (v := .str z) hg hm ⟨t, rfl⟩ (fun H => .str z) hd
end
/-- a def that may be called: where it stands, what it promises -/
def Cal (P : Program) (w : World) (K : PySem.W.Frag) (mg : Str → Option Value) (base : Heap) (k : Nat) (x : Str) (ps : List Str) (sp : DSp) : Prop :=
  ∃ f fd, mg x = some (.ref f) ∧ PySem.W.keepIn K (.ref f) = true ∧ Binds K fd ps [] ∧ FnOk P w K mg base CX0 k f fd ps (liftSp K sp)
section
variable {X : Cx} {e : Expr} {es : List Expr} {mr : MA} {x : Str} {k j : Nat} {ps : List Str} {sp : DSp} {p pos : Pos}
theorem dcall (C : Cal X.prog X.w X.K X.mg X.base k x ps sp) (hr : Room j X.A) (hj : k ≤ j) (ha : DA X (e :: es) mr) (hg : Gl X x := by rfl) (hdb : (x == ("__debug__" : Str)) = false := by decide) (he : starEach (e :: es) X.env = (false, eval e X.env) :: starEach es X.env := by rfl) (hpl : (backTo pos (starEach es X.env)).any (·.1) = false := by rfl) :
    DE X (.Call (.Name x p) (e :: es) [] pos) (mCall sp mr) := by
  obtain ⟨f, fd, hm, hk, hb, F⟩ := C
  exact de_call F (hr.mono hj) hg hm hk hb ha hdb he hpl
theorem dcall0 (C : Cal X.prog X.w X.K X.mg X.base k x ps sp) (hr : Room j X.A) (hj : k ≤ j) (hg : Gl X x := by rfl) (hdb : (x == ("__debug__" : Str)) = false := by decide) :
    DE X (.Call (.Name x p) [] [] pos) (mCall sp mNil) := by
  obtain ⟨f, fd, hm, hk, hb, F⟩ := C
  exact de_call0 F (hr.mono hj) hg hm hk hb hdb
end
end L2.DL

namespace L2.DL
open PySem PySem.Spec PyProof.Rows

/-! ### calls by keywords alone -/
structure DKw (X : Cx) (kws : List Keyword) (m : MA) : Prop where
  pk : PK X kws (liftA X.K m)
theorem pk_mono {X : Cx} {kws : List Keyword} {t t' : TA} (h : PK X kws t) (k : ∀ σ H Q, t' σ H Q → t σ H Q) : PK X kws t' := ⟨fun pos pins s σ H Q I hw => h.run pos pins s σ H Q I (k _ _ _ hw)⟩
section
variable {X : Cx} {e : Expr} {kws : List Keyword} {ma : ME} {mr : MA} {nm : Option Str} {kpos : Pos}
theorem dk_nil : DKw X [] mNil := ⟨pk_mono pk_nil fun σ H Q ⟨env, st, Q0, re, rs, h, k⟩ => k [] st [] H h .refl .nil rs⟩
theorem dk_cons (ha : DE X e ma) (hr : DKw X kws mr) : DKw X (⟨nm, e, kpos⟩ :: kws) (mCons ma mr) :=
  ⟨pk_mono (pk_cons ha.pe hr.pk) fun σ H Q ⟨env, st, Q0, re, rs, h, k⟩ => by
    refine lift_in re rs h fun x st1 x' H1 q1 e1 rx re1 rs1 => ?_
    refine liftA_in re1 rs1 q1 fun xs st2 xs' H2 q2 e2 rxs re2 rs2 => ?_
    exact k _ st2 _ H2 q2 (e1.trans e2) (.cons (rx.mono e2) rxs) rs2⟩
end
def CalK (P : Program) (w : World) (K : PySem.W.Frag) (mg : Str → Option Value) (base : Heap) (k : Nat) (x : Str) (ps ks : List Str) (idx : List Nat) (sp : DSp) : Prop :=
  ∃ f fd, mg x = some (.ref f) ∧ PySem.W.keepIn K (.ref f) = true ∧ (∀ (s : Shared) (ws : List Value), ws.length = ks.length → BindsTo s fd ⟨[], ks.zip ws⟩ (ps.zip (idx.map fun i => ws.getD i .none))) ∧
    (∀ i ∈ idx, i < ks.length) ∧ idx.length = ps.length ∧ FnOk P w K mg base CX0 k f fd ps (liftSp K sp)
def mCallK (n : Nat) (idx : List Nat) (sp : DSp) (m : MA) : ME := fun env st Q => m env st fun zs st1 => zs.length = n ∧ sp (idx.map fun i => zs.getD i .non) st1 Q
theorem RelDs.pick {K : PySem.W.Frag} {H : Hp} {ds : List D} {vs : List V} (r : RelDs K H ds vs) : ∀ (idx : List Nat), RelDs K H (idx.map fun i => ds.getD i .non) (idx.map fun i => vs.getD i .non)
  | [] => .nil
  | i :: idx => by
    refine .cons ?_ (RelDs.pick r idx)
    show RelD K H (ds.getD i .non) (vs.getD i .non)
    rw [List.getD_eq_getElem?_getD, List.getD_eq_getElem?_getD]
    cases e : ds[i]? with
    | none =>
      have : vs[i]? = none := List.getElem?_eq_none (by rw [← r.length]; exact List.getElem?_eq_none_iff.mp e)
      rw [this]; exact .non
    | some d =>
      obtain ⟨v, h1, h2⟩ := r.get e
      rw [h1]; exact h2
theorem vals_pick {vs : List V} {us : List Value} (r : Vals vs us) : ∀ (idx : List Nat), Vals (idx.map fun i => vs.getD i .non) (idx.map fun i => us.getD i .none)
  | [] => .nil
  | i :: idx => by
    refine .cons ?_ (vals_pick r idx)
    show RelV (vs.getD i .non) (us.getD i .none)
    rw [List.getD_eq_getElem?_getD, List.getD_eq_getElem?_getD]
    cases e : vs[i]? with
    | none =>
      rw [Vals.none_of r e]; rfl
    | some v =>
      obtain ⟨u, h1, h2⟩ := r.get e
      rw [h1]; exact h2
section
variable {X : Cx} {x : Str} {k j n : Nat} {ps ks : List Str} {idx : List Nat} {sp : DSp} {p pos : Pos} {kws : List Keyword} {m : MA}
theorem dcallK (C : CalK X.prog X.w X.K X.mg X.base k x ps ks idx sp) (hr : Room j X.A) (hj : k ≤ j) (hkw : DKw X kws m) (hn : ks.length = n := by rfl) (hg : Gl X x := by rfl) (hdb : (x == ("__debug__" : Str)) = false := by decide)
    (hall : (backToKw pos (keywordEach kws X.env)).all (·.1.isSome) = true := by rfl) (hks : (backToKw pos (keywordEach kws X.env)).filterMap (·.1) = ks := by rfl)
    (hpl : ((backTo pos (starEach [] X.env)).any (·.1) || (backToKw pos (keywordEach kws X.env)).any (·.1.isNone)) = false := by rfl) :
    DE X (.Call (.Name x p) [] kws pos) (mCallK n idx sp m) := by
  obtain ⟨f, fd, hm, hk, hb, hi, hil, F⟩ := C
  refine ⟨⟨fun pins s σ H Q I h => ?_⟩⟩
  refine wpAny_Call_Name_kw (ld_glob I hg hm ?_ hdb)
  obtain ⟨env, st, Q0, re, rs, h, k1⟩ := h
  refine PySem.W.callWith_KW0 (h₀ := X.base) I.ok.mod.kin hk hall ?_ hpl
  have hw : liftA X.K m σ H fun zs H2 => ∃ ds st', RelDs X.K H2 ds zs ∧ RelSto X.K H2 st' ∧ Ext H H2 ∧ ds.length = n ∧ sp (idx.map fun i => ds.getD i .non) st' Q0 :=
    ⟨env, st, _, re, rs, h, fun ds st' zs H2 q e r s => ⟨ds, st', r, s, e, q.1, q.2⟩⟩
  refine thn (hkw.pk.run pos pins s σ H _ I hw) fun ws s2 ⟨zs, H2, I2, rz, ds, st', rd, rs', ex, hl, hsp⟩ => ⟨I2.kIn, ?_⟩
  rw [hks]
  show wpAny _ _ (call (.ref f) ([] ++ []) (ks.zip ws)) _ _ _
  have hzl : zs.length = n := by rw [← rd.length]; exact hl
  have hwl : ws.length = ks.length := by rw [← rz.length, hzl, hn]
  refine wpAny_call (codeAny_mono (F.run X.A X.stack s2 H2 ⟨[], ks.zip ws⟩ _ _ Q E0 (hr.mono hj) I2.env0 (hb s2 ws hwl) (vals_pick rz idx) ⟨_, st', Q0, rd.pick idx, rs', hsp, fun d st2 v H3 q e r s => k1 d st2 v H3 q (ex.trans e) r s⟩) fun r s' hq => ?_)
  cases r with
  | error e => exact hq.elim
  | ok fl =>
    cases fl with
    | ret u => exact I2.after hq
    | next => exact False.elim hq
    | brk => exact False.elim hq
    | cont => exact False.elim hq
end
theorem bindsK {K : PySem.W.Frag} {x qual : Str} {params : Arguments} {body : List Stmt} {scope : Scope} {kws : List (Str × V)} {f : Addr} {fd : FuncData} {ps ks : List Str} {idx : List Nat} (F : FunD K x qual params body scope [] kws f fd)
    (h : ∀ (kV doc pm : Value) (an : Option Addr) (cdv ct : Value) (ws : List Value), ws.length = ks.length → bindArgs (PySem.W.fnOf x qual params body scope .none kV doc pm an cdv ct) ⟨[], ks.zip ws⟩ = pure (ps.zip (idx.map fun i => ws.getD i .none))) (s : Shared) (ws : List Value) (hl : ws.length = ks.length) : BindsTo s fd ⟨[], ks.zip ws⟩ (ps.zip (idx.map fun i => ws.getD i .none)) := by
  obtain ⟨oc, od, dV, kV, doc, pm, an, cdv, ct, osl, rfl, lk, hcd, hD, hK⟩ := F.ex
  rcases hD with ⟨_, rfl⟩ | ⟨e, _⟩
  · exact .of_eq (h kV doc pm an cdv ct ws hl)
  · exact absurd rfl e
end L2.DL
namespace L2.DL
open PySem PySem.Spec PyProof.Rows
/-- the law's def, called with the script -/
theorem law_in {K : PySem.W.Frag} {H : Hp} {a : Addr} {ns : List Int} {sp : DSp} (hl : ns.length ≤ 63) (hS : SqL K H a (ns.map V.int))
    (spec : ∀ a (ns : List Int), ns.length ≤ 63 → sp [.ref a] (put (fun _ => none) a (.rol (ns.map D.int))) (fun d _ => d = .bl true)) : liftSp K sp [.ref a] H (fun v _ => v = .bl true) fun _ _ _ => False := by
  refine ⟨[.ref a], _, _, .cons (.ref a) .nil, fun b o hb => ?_, spec a ns hl, fun d st' v H' e _ r _ => ?_⟩
  · by_cases q : b = a
    · subst q
      rw [put_same] at hb
      cases hb
      exact ⟨_, hS, .of_ints ns⟩
    · rw [put_ne q] at hb; cases hb
  · subst e
    exact r.bl_of
end L2.DL

namespace L2.DL
open PySem PySem.Spec PyProof.Rows

/-! ### readings step by step (no program in sight from here on) -/
section
variable {env : Env} {st : Sto} {Q : DK} {D0 : DEnds}
theorem sSeq_a {t u : MS} : sSeq t u D0 env st = t { nx := u D0, rt := D0.rt, bk := D0.bk, ct := D0.ct } env st := rfl
theorem sNext_a : sNext D0 env st = D0.nx env st := rfl
theorem sBreak_a : sBreak D0 env st = D0.bk env st := rfl
theorem sCont_a : sCont D0 env st = D0.ct env st := rfl
theorem sDrop_a {m : ME} : sDrop m D0 env st = m env st fun _ st1 => D0.nx env st1 := rfl
theorem sRet_a {m : ME} : sRet m D0 env st = m env st D0.rt := rfl
theorem sRetN_a : sRetN D0 env st = D0.rt .non st := rfl
theorem sIf_a {c : MT} {t u : MS} : sIf c t u D0 env st = c env st fun b st1 => if b = true then t D0 env st1 else u D0 env st1 := rfl
theorem sAsg_a {m : ME} {g : MG} : sAsg m g D0 env st = m env st fun d st1 => g d env st1 D0.nx := rfl
theorem sAug_a {i : Nat} {m : ME} {r : M2} {x : D} (h : env[i]? = some (some x)) : sAug i m r D0 env st = m env st fun y st1 => r x y st1 fun z st2 => D0.nx (env.set i (some z)) st2 := by
  unfold sAug
  rw [h]
  simp
theorem ex_pair {α : Type} {x y : α} {P : α → α → Prop} : (∃ v w, [x, y] = [v, w] ∧ P v w) = P x y := by
  apply propext
  constructor
  · rintro ⟨v, w, e, h⟩; cases e; exact h
  · exact fun h => ⟨x, y, rfl, h⟩
theorem ex_three {α : Type} {x y z : α} {P : α → α → α → Prop} : (∃ u v w, [x, y, z] = [u, v, w] ∧ P u v w) = P x y z := by
  apply propext
  constructor
  · rintro ⟨u, v, w, e, h⟩; cases e; exact h
  · exact fun h => ⟨x, y, z, rfl, h⟩
theorem sPar_a {i j : Nat} {a b : ME} : sPar i j (mCons a (mCons b mNil)) D0 env st = a env st fun x st1 => b env st1 fun y st2 => D0.nx ((env.set i (some x)).set j (some y)) st2 := by
  unfold sPar mCons mNil
  simp only [ex_pair]
theorem sPar3_a {i j l : Nat} {a b c : ME} : sPar3 i j l (mCons a (mCons b (mCons c mNil))) D0 env st = a env st fun x st1 => b env st1 fun y st2 => c env st2 fun z st3 => D0.nx (((env.set i (some x)).set j (some y)).set l (some z)) st3 := by
  unfold sPar3 mCons mNil
  simp only [ex_three]
/-- a slot's value -/
def vAt : Option (Option D) → Sto → DK → Prop
  | some (some d), st, Q => Q d st
  | _, _, _ => False
theorem mVar_a {i : Nat} : mVar i env st Q = vAt env[i]? st Q := by
  unfold mVar
  cases e : env[i]? with
  | none => simp [vAt]
  | some o => cases o <;> simp [vAt]
theorem vAt_a {d : D} : vAt (some (some d)) st Q = Q d st := rfl
theorem mC_a {d : D} : mC d env st Q = Q d st := rfl
theorem mBin_a {r : M2} {a b : ME} : mBin r a b env st Q = a env st fun x st1 => b env st1 fun y st2 => r x y st2 Q := rfl
def bAt : D → Sto → (Bool → Sto → Prop) → Prop
  | .bl k, st, Q => Q k st
  | _, _, _ => False
theorem mTest_a {m : ME} {Q : Bool → Sto → Prop} : mTest m env st Q = m env st fun x st1 => bAt x st1 Q := by
  have e : (fun x st1 => ∃ k, x = D.bl k ∧ Q k st1) = fun x st1 => bAt x st1 Q := by
    funext x st1
    cases x <;> simp [bAt]
  unfold mTest
  rw [e]
theorem bAt_a {k : Bool} {Q : Bool → Sto → Prop} : bAt (.bl k) st Q = Q k st := rfl
theorem mAnd_a {t u : MT} {Q : Bool → Sto → Prop} : mAnd t u env st Q = t env st fun c st1 => if c = true then u env st1 Q else Q false st1 := rfl
theorem mOr_a {t u : MT} {Q : Bool → Sto → Prop} : mOr t u env st Q = t env st fun c st1 => if c = true then Q true st1 else u env st1 Q := rfl
theorem mNot_a {t : MT} {Q : Bool → Sto → Prop} : mNot t env st Q = t env st fun c st1 => Q (!c) st1 := rfl
theorem mYes_a {Q : Bool → Sto → Prop} : mYes env st Q = Q true st := rfl
theorem mAndV_a {a b : ME} : mAndV a b env st Q = a env st fun x st1 => bAt x st1 fun c st2 => if c = true then b env st2 Q else Q (.bl false) st2 := by
  have e : (fun x st1 => ∃ c, x = D.bl c ∧ if c = true then b env st1 Q else Q (.bl false) st1) = fun x st1 => bAt x st1 fun c st2 => if c = true then b env st2 Q else Q (.bl false) st2 := by
    funext x st1
    cases x <;> simp [bAt]
  unfold mAndV
  rw [e]
theorem mOrV_a {a b : ME} : mOrV a b env st Q = a env st fun x st1 => bAt x st1 fun c st2 => if c = true then Q (.bl true) st2 else b env st2 Q := by
  have e : (fun x st1 => ∃ c, x = D.bl c ∧ if c = true then Q (.bl true) st1 else b env st1 Q) = fun x st1 => bAt x st1 fun c st2 => if c = true then Q (.bl true) st2 else b env st2 Q := by
    funext x st1
    cases x <;> simp [bAt]
  unfold mOrV
  rw [e]
theorem mNotV_a {a : ME} : mNotV a env st Q = a env st fun x st1 => bAt x st1 fun c st2 => Q (.bl (!c)) st2 := by
  have e : (fun x st1 => ∃ c, x = D.bl c ∧ Q (.bl (!c)) st1) = fun x st1 => bAt x st1 fun c st2 => Q (.bl (!c)) st2 := by
    funext x st1
    cases x <;> simp [bAt]
  unfold mNotV
  rw [e]
theorem mIf_a {t : MT} {a b : ME} : mIf t a b env st Q = t env st fun c st1 => if c = true then a env st1 Q else b env st1 Q := rfl
theorem mNil_a {Q : List D → Sto → Prop} : mNil env st Q = Q [] st := rfl
theorem mCons_a {a : ME} {r : MA} {Q : List D → Sto → Prop} : mCons a r env st Q = a env st fun x st1 => r env st1 fun xs st2 => Q (x :: xs) st2 := rfl
theorem mTup_a {m : MA} : mTup m env st Q = m env st fun xs st1 => xs.length ≤ sizeLine ∧ Q (.tup xs) st1 := rfl
theorem mLst_a {m : MA} : mLst m env st Q = m env st fun xs st1 => xs.length ≤ sizeLine ∧ ∀ p, Nf st1 p → Q (.ref p) (put st1 p (.lst xs)) := rfl
theorem mCall_a {r : MC} {m : MA} : mCall r m env st Q = m env st fun xs st1 => r xs st1 Q := rfl
theorem mCallK_a {n : Nat} {idx : List Nat} {sp : DSp} {m : MA} : mCallK n idx sp m env st Q = m env st fun zs st1 => zs.length = n ∧ sp (idx.map fun i => zs.getD i .non) st1 Q := rfl
theorem mMeth_a {ty : D → Sto → Prop} {r : MM} {mo : ME} {ma : MA} : mMeth ty r mo ma env st Q = mo env st fun x st1 => ty x st1 ∧ ma env st1 fun xs st2 => r x xs st2 Q := rfl
theorem mSl_a {m : ME} {ml mh : MO} : mSl m ml mh env st Q = m env st fun x st1 => ml env st1 fun lo st2 => mh env st2 fun hi st3 => oSl x lo hi st3 Q := rfl
theorem mNoPart_a {Q : Option Int → Sto → Prop} : mNoPart env st Q = Q none st := rfl
def iAt : D → Sto → (Int → Sto → Prop) → Prop
  | .int k, st, Q => Q k st
  | _, _, _ => False
theorem iAt_a {k : Int} {Q : Int → Sto → Prop} : iAt (.int k) st Q = Q k st := rfl
theorem mPart_a {m : ME} {Q : Option Int → Sto → Prop} : mPart m env st Q = m env st fun x st1 => iAt x st1 fun i st2 => Q (some i) st2 := by
  have e : (fun x st1 => ∃ i, x = D.int i ∧ Q (some i) st1) = fun x st1 => iAt x st1 fun i st2 => Q (some i) st2 := by
    funext x st1
    cases x <;> simp [iAt]
  unfold mPart
  rw [e]
theorem mIsi_a {ns : List String} {m : ME} : mIsi ns m env st Q = m env st fun x st1 => ∃ t, tyD st1 x = some t ∧ Q (.bl (ns.any (isiB t))) st1 := rfl
theorem gN_a {i : Nat} {d : D} {Q : Env → Sto → Prop} : gN i d env st Q = Q (env.set i (some d)) st := rfl
theorem gTup_a {n : Nat} {gs : MGs} {ds : List D} {Q : Env → Sto → Prop} : gTup n gs (.tup ds) env st Q = (ds.length = n ∧ gs ds env st Q) := by
  apply propext
  constructor
  · rintro ⟨es, e, h⟩; cases e; exact h
  · exact fun h => ⟨ds, rfl, h⟩
theorem gCons_a {g : MG} {gs : MGs} {d : D} {ds : List D} {Q : Env → Sto → Prop} : gCons g gs (d :: ds) env st Q = g d env st fun env' st' => gs ds env' st' Q := by
  apply propext
  constructor
  · rintro ⟨e, r, h, q⟩; cases h; exact q
  · exact fun h => ⟨d, ds, rfl, h⟩
theorem gNil_a {Q : Env → Sto → Prop} : gNil [] env st Q = Q env st := by
  apply propext
  exact ⟨fun h => h.2, fun h => ⟨rfl, h⟩⟩
theorem gSub_a {mo mi : ME} {r : M3} {d : D} {Q : Env → Sto → Prop} : gSub mo mi r d env st Q = mo env st fun o st1 => mi env st1 fun i st2 => r o i d st2 fun st3 => Q env st3 := rfl
theorem endsOf_rt {d : D} : (endsOf Q).rt d st = ∃ st2, Sub st2 st ∧ Q d st2 := rfl
theorem endsOf_nx : (endsOf Q).nx env st = ∃ st2, Sub st2 st ∧ Q .non st2 := rfl
end
/-! values compared -/
theorem beq_dec_int (i j : Int) : (i == j) = decide (i = j) := by
  by_cases e : i = j
  · simp [e]
  · simp [e]
theorem beq_dec_str (i j : Str) : (i == j) = decide (i = j) := by
  by_cases e : i = j
  · simp [e]
  · simp [e]
theorem oEq_int {i j : Int} {st : Sto} {Q : DK} : oEq (.int i) (.int j) st Q = Q (.bl (decide (i = j))) st := by
  apply propext
  constructor
  · rintro (⟨b, e, h⟩ | ⟨p, q, e1, e2, _, _, h⟩)
    · cases e; exact h
    · simp only [pyOf, toPy, Option.some.injEq] at e1 e2
      subst e1 e2
      simpa only [PyData.eqv, beq_dec_int] using h
  · exact fun h => .inl ⟨_, rfl, h⟩
theorem oNe_int {i j : Int} {st : Sto} {Q : DK} : oNe (.int i) (.int j) st Q = Q (.bl (!decide (i = j))) st := by
  apply propext
  constructor
  · rintro (⟨b, e, h⟩ | ⟨p, q, e1, e2, _, _, h⟩)
    · cases e; exact h
    · simp only [pyOf, toPy, Option.some.injEq] at e1 e2
      subst e1 e2
      simpa only [PyData.eqv, beq_dec_int] using h
  · exact fun h => .inl ⟨_, rfl, h⟩
theorem oEq_str {i j : Str} {st : Sto} {Q : DK} : oEq (.str i) (.str j) st Q = Q (.bl (decide (i = j))) st := by
  apply propext
  constructor
  · rintro (⟨b, e, h⟩ | ⟨p, q, e1, e2, _, _, h⟩)
    · cases e; exact h
    · simp only [pyOf, toPy, Option.some.injEq] at e1 e2
      subst e1 e2
      simpa only [PyData.eqv, beq_dec_str] using h
  · exact fun h => .inl ⟨_, rfl, h⟩
theorem oNe_str {i j : Str} {st : Sto} {Q : DK} : oNe (.str i) (.str j) st Q = Q (.bl (!decide (i = j))) st := by
  apply propext
  constructor
  · rintro (⟨b, e, h⟩ | ⟨p, q, e1, e2, _, _, h⟩)
    · cases e; exact h
    · simp only [pyOf, toPy, Option.some.injEq] at e1 e2
      subst e1 e2
      simpa only [PyData.eqv, beq_dec_str] using h
  · exact fun h => .inl ⟨_, rfl, h⟩
theorem Nf.ne {st : Sto} {p a : Addr} {xs : List D} (h : Nf st p) (e : st a = some (.lst xs)) : p ≠ a := by
  rintro rfl
  rcases h with h | ⟨_, h⟩ <;> rw [e] at h <;> cases h
theorem Nf.neD {st : Sto} {p a : Addr} {xs : List (Key × D)} (h : Nf st p) (e : st a = some (.dic xs)) : p ≠ a := by
  rintro rfl
  rcases h with h | ⟨_, h⟩ <;> rw [e] at h <;> cases h
theorem rdL_lst {xs : List D} : rdL (some (.lst xs)) = some xs := rfl
theorem rdL_rol {xs : List D} : rdL (some (.rol xs)) = some xs := rfl
end L2.DL

namespace L2.DL
open PySem PySem.Spec PyProof.Rows

/-! ### operations, case by case -/
theorem szL : sizeLine = 16777216 := rfl

section
variable {st : Sto} {Q : DK}
theorem oAdd_int {i j : Int} : oAdd (.int i) (.int j) st Q = Q (.int (i + j)) st := rfl
theorem oAdd_str {i j : Str} : oAdd (.str i) (.str j) st Q = (i.length + j.length ≤ sizeLine ∧ Q (.str (i ++ j)) st) := rfl
theorem oAdd_tup {a b : List D} : oAdd (.tup a) (.tup b) st Q = (a.length + b.length ≤ sizeLine ∧ Q (.tup (a ++ b)) st) := rfl
theorem oAdd_lst {a b : Addr} {xs ys : List D} (h1 : st a = some (.lst xs)) (h2 : st b = some (.lst ys)) (hl : xs.length + ys.length ≤ sizeLine) (k : ∀ p, Nf st p → Q (.ref p) (put st p (.lst (xs ++ ys)))) : oAdd (.ref a) (.ref b) st Q := ⟨xs, ys, h1, h2, hl, k⟩
theorem oSub_int {i j : Int} : oSub (.int i) (.int j) st Q = Q (.int (i - j)) st := rfl
theorem oMul_int {i j : Int} : oMul (.int i) (.int j) st Q = (CMulW i j ∧ Q (.int (i * j)) st) := rfl
theorem oDiv_int {i j : Int} : oDiv (.int i) (.int j) st Q = (CDivW i j ∧ Q (.int (i / j)) st) := rfl
theorem oMod_int {i j : Int} : oMod (.int i) (.int j) st Q = (0 < j ∧ Q (.int (i % j)) st) := rfl
theorem oPow_int {i j : Int} : oPow (.int i) (.int j) st Q = (CPow i j ∧ Q (.int (i ^ j.toNat)) st) := rfl
theorem oLt_int {i j : Int} : oLt (.int i) (.int j) st Q = Q (.bl (decide (i < j))) st := rfl
theorem oLe_int {i j : Int} : oLe (.int i) (.int j) st Q = Q (.bl (decide (i ≤ j))) st := rfl
theorem oGt_int {i j : Int} : oGt (.int i) (.int j) st Q = Q (.bl (decide (j < i))) st := rfl
theorem oGe_int {i j : Int} : oGe (.int i) (.int j) st Q = Q (.bl (decide (j ≤ i))) st := rfl
theorem oIs_nn : oIs .non .non st Q = Q (.bl true) st := rfl
theorem oIs_bn {b : Bool} : oIs (.bl b) .non st Q = Q (.bl false) st := rfl
theorem oIs_in {b : Int} : oIs (.int b) .non st Q = Q (.bl false) st := rfl
theorem oIs_sn {b : Str} : oIs (.str b) .non st Q = Q (.bl false) st := rfl
theorem oIs_tn {b : List D} : oIs (.tup b) .non st Q = Q (.bl false) st := rfl
theorem oIs_rn {b : Addr} : oIs (.ref b) .non st Q = Q (.bl false) st := rfl
theorem oIs_nb {b : Bool} : oIs .non (.bl b) st Q = Q (.bl false) st := rfl
theorem oIs_ib {b : Bool} {i : Int} : oIs (.int i) (.bl b) st Q = Q (.bl false) st := rfl
theorem oIs_sb {b : Bool} {i : Str} : oIs (.str i) (.bl b) st Q = Q (.bl false) st := rfl
theorem oIs_tb {b : Bool} {i : List D} : oIs (.tup i) (.bl b) st Q = Q (.bl false) st := rfl
theorem oIs_rb {b : Bool} {i : Addr} : oIs (.ref i) (.bl b) st Q = Q (.bl false) st := rfl
theorem oIs_bb {a b : Bool} : oIs (.bl a) (.bl b) st Q = Q (.bl (decide (a = b))) st := rfl
theorem oIx_tup {xs : List D} {i : Int} : oIx (.tup xs) (.int i) st Q = ∃ v, atI xs i = some v ∧ Q v st := rfl
theorem oIx_t {xs : List D} {i : Int} {v : D} (e : atI xs i = some v) (q : Q v st) : oIx (.tup xs) (.int i) st Q := ⟨v, e, q⟩
theorem oIx_s {z : Str} {i : Int} {c : Nat} (hz : z.length ≤ sizeLine) (e : atI z.cps.toList i = some c) (q : Q (.str ⟨#[c]⟩) st) : oIx (.str z) (.int i) st Q := ⟨hz, c, e, q⟩
theorem oIx_l {a : Addr} {xs : List D} {i : Int} {v : D} (h : rdL (st a) = some xs) (e : atI xs i = some v) (q : Q v st) : oIx (.ref a) (.int i) st Q := .inl ⟨xs, i, v, h, rfl, e, q⟩
theorem oIx_d {a : Addr} {kvs : List (Key × D)} {y v : D} {k : Key} (h : rdD (st a) = some kvs) (ek : keyD y = some k) (e : valD kvs k = some v) (q : Q v st) : oIx (.ref a) y st Q := .inr ⟨kvs, k, v, h, ek, e, q⟩
theorem oSl_tup {xs : List D} {lo hi : Option Int} : oSl (.tup xs) lo hi st Q = Q (.tup (cutL xs lo hi)) st := rfl
theorem oSl_str {z : Str} {lo hi : Option Int} : oSl (.str z) lo hi st Q = (z.length ≤ sizeLine ∧ Q (.str (cutS z lo hi)) st) := rfl
theorem oSl_l {a : Addr} {xs : List D} {lo hi : Option Int} (h : rdL (st a) = some xs) (k : ∀ p, Nf st p → Q (.ref p) (put st p (.lst (cutL xs lo hi)))) : oSl (.ref a) lo hi st Q := ⟨xs, h, k⟩
theorem oAppend_l {a : Addr} {xs : List D} {y : D} (h : st a = some (.lst xs)) (hl : xs.length < sizeLine) (q : Q .non (put st a (.lst (xs ++ [y])))) : oAppend (.ref a) [y] st Q := ⟨xs, h, hl, q⟩
theorem oPop_l {a : Addr} {xs : List D} {y : D} (h : st a = some (.lst xs)) (hl : xs.getLast? = some y) (q : Q y (put st a (.lst xs.dropLast))) : oPop (.ref a) [] st Q := ⟨xs, y, h, hl, q⟩
theorem oExtend_l {a b : Addr} {xs ys : List D} (h : st a = some (.lst xs)) (h2 : st b = some (.lst ys)) (hl : xs.length + ys.length ≤ sizeLine) (q : Q .non (put st a (.lst (xs ++ ys)))) : oExtend (.ref a) [.ref b] st Q := ⟨xs, ys, h, h2, hl, q⟩
theorem oExtend_t {a : Addr} {xs ys : List D} (h : st a = some (.lst xs)) (hl : xs.length + ys.length ≤ sizeLine) (q : Q .non (put st a (.lst (xs ++ ys)))) : oExtend (.ref a) [.tup ys] st Q := ⟨xs, h, hl, q⟩
theorem oLen_tup {xs : List D} : oLen [.tup xs] st Q = Q (.int xs.length) st := rfl
theorem oLen_str {z : Str} : oLen [.str z] st Q = (z.length ≤ sizeLine ∧ Q (.int z.length) st) := rfl
theorem oLen_l {a : Addr} {xs : List D} (h : rdL (st a) = some xs) (q : Q (.int xs.length) st) : oLen [.ref a] st Q := .inl ⟨xs, h, q⟩
theorem oLen_d {a : Addr} {kvs : List (Key × D)} (h : st a = some (.dic kvs)) (q : Q (.int kvs.length) st) : oLen [.ref a] st Q := .inr ⟨kvs, h, q⟩
theorem oAbs_int {i : Int} : oAbs [.int i] st Q = Q (.int (if i < 0 then -i else i)) st := rfl
theorem oInt_int {i : Int} : oInt [.int i] st Q = Q (.int i) st := rfl
theorem oInt_bl {b : Bool} : oInt [.bl b] st Q = Q (.int (if b then 1 else 0)) st := rfl
theorem oMax_int {i j : Int} : oMax [.int i, .int j] st Q = Q (.int (if j > i then j else i)) st := rfl
theorem oMin_int {i j : Int} : oMin [.int i, .int j] st Q = Q (.int (if j < i then j else i)) st := rfl
theorem oTuple_tup {xs : List D} : oTuple [.tup xs] st Q = Q (.tup xs) st := rfl
theorem oTuple_l {a : Addr} {xs : List D} (h : rdL (st a) = some xs) (q : Q (.tup xs) st) : oTuple [.ref a] st Q := ⟨xs, h, q⟩
theorem oList_tup {xs : List D} : oList [.tup xs] st Q = ∀ p, Nf st p → Q (.ref p) (put st p (.lst xs)) := rfl
theorem oList_str {z : Str} : oList [.str z] st Q = (z.length ≤ sizeLine ∧ ∀ p, Nf st p → Q (.ref p) (put st p (.lst (signsD z)))) := rfl
theorem oList_l {a : Addr} {xs : List D} (h : rdL (st a) = some xs) (k : ∀ p, Nf st p → Q (.ref p) (put st p (.lst xs))) : oList [.ref a] st Q := ⟨xs, h, k⟩
theorem oSet_l {a : Addr} {xs : List D} {i : Int} {j : Nat} {v : D} {Q : Sto → Prop} (h : st a = some (.lst xs)) (e : ixN xs.length i = some j) (q : Q (put st a (.lst (xs.set j v)))) : oSet (.ref a) (.int i) v st Q := .inl ⟨xs, i, j, h, rfl, e, q⟩
theorem oSet_d {a : Addr} {kvs : List (Key × D)} {k : Key} {y v : D} {Q : Sto → Prop} (h : st a = some (.dic kvs)) (e : keyD y = some k) (hl : kvs.length < sizeLine) (q : Q (put st a (.dic (putD kvs k v)))) : oSet (.ref a) y v st Q := .inr ⟨kvs, k, h, e, hl, q⟩
theorem oIn_l {a : Addr} {xs : List D} {x : D} (h : rdL (st a) = some xs) (f1 : flatD x = true) (f2 : xs.all flatD = true) (q : Q (.bl (inF x xs)) st) : oIn x (.ref a) st Q := by
  cases x <;> exact .inl ⟨xs, h, f1, f2, q⟩
theorem oIn_d {a : Addr} {kvs : List (Key × D)} {k : Key} {x : D} (h : rdD (st a) = some kvs) (e : keyD x = some k) (q : Q (.bl (valD kvs k).isSome) st) : oIn x (.ref a) st Q := by
  cases x <;> exact .inr ⟨kvs, k, h, e, q⟩
theorem oIn_t {xs : List D} {x : D} (f1 : flatD x = true) (f2 : xs.all flatD = true) (q : Q (.bl (inF x xs)) st) : oIn x (.tup xs) st Q := by
  cases x <;> exact ⟨f1, f2, q⟩
theorem oNotIn_l {a : Addr} {xs : List D} {x : D} (h : rdL (st a) = some xs) (f1 : flatD x = true) (f2 : xs.all flatD = true) (q : Q (.bl (!inF x xs)) st) : oNotIn x (.ref a) st Q := oIn_l h f1 f2 ⟨_, rfl, q⟩
theorem oNotIn_d {a : Addr} {kvs : List (Key × D)} {k : Key} {x : D} (h : rdD (st a) = some kvs) (e : keyD x = some k) (q : Q (.bl (!(valD kvs k).isSome)) st) : oNotIn x (.ref a) st Q := oIn_d h e ⟨_, rfl, q⟩
/-- isinstance, where the kind is known -/
def tyO : Option String → String → Sto → DK → Prop
  | some t, n, st, Q => Q (.bl (isiB t n)) st
  | none, _, _, _ => False
theorem oIsi_t {x : D} {n : String} (hn : n ∈ ["int", "str", "bool", "tuple", "list", "dict"]) : oIsi [x, .ty n] st Q = tyO (tyD st x) n st Q := by
  apply propext
  constructor
  · rintro ⟨_, t, e, q⟩; rw [e]; exact q
  · intro h
    cases e : tyD st x with
    | none => rw [e] at h; exact h.elim
    | some t => rw [e] at h; exact ⟨hn, t, e, h⟩
theorem oIsi_int {x : D} : oIsi [x, .ty "int"] st Q = tyO (tyD st x) "int" st Q := oIsi_t (by decide)
theorem oIsi_str {x : D} : oIsi [x, .ty "str"] st Q = tyO (tyD st x) "str" st Q := oIsi_t (by decide)
theorem oIsi_bool {x : D} : oIsi [x, .ty "bool"] st Q = tyO (tyD st x) "bool" st Q := oIsi_t (by decide)
theorem oIsi_tuple {x : D} : oIsi [x, .ty "tuple"] st Q = tyO (tyD st x) "tuple" st Q := oIsi_t (by decide)
theorem oIsi_list {x : D} : oIsi [x, .ty "list"] st Q = tyO (tyD st x) "list" st Q := oIsi_t (by decide)
theorem oIsi_dict {x : D} : oIsi [x, .ty "dict"] st Q = tyO (tyD st x) "dict" st Q := oIsi_t (by decide)
theorem tyO_some {t n : String} : tyO (some t) n st Q = Q (.bl (isiB t n)) st := rfl
theorem tyD_non : tyD st .non = some "NoneType" := rfl
theorem tyD_bl {b : Bool} : tyD st (.bl b) = some "bool" := rfl
theorem tyD_int {b : Int} : tyD st (.int b) = some "int" := rfl
theorem tyD_str {b : Str} : tyD st (.str b) = some "str" := rfl
theorem tyD_tup {b : List D} : tyD st (.tup b) = some "tuple" := rfl
theorem isi_facts : isiB "NoneType" "str" = false ∧ isiB "NoneType" "int" = false ∧ isiB "NoneType" "bool" = false ∧ isiB "NoneType" "tuple" = false ∧ isiB "NoneType" "list" = false ∧ isiB "NoneType" "dict" = false ∧
    isiB "bool" "str" = false ∧ isiB "bool" "int" = true ∧ isiB "bool" "bool" = true ∧ isiB "bool" "tuple" = false ∧ isiB "bool" "list" = false ∧ isiB "bool" "dict" = false ∧
    isiB "int" "str" = false ∧ isiB "int" "int" = true ∧ isiB "int" "bool" = false ∧ isiB "int" "tuple" = false ∧ isiB "int" "list" = false ∧ isiB "int" "dict" = false ∧
    isiB "str" "str" = true ∧ isiB "str" "int" = false ∧ isiB "str" "bool" = false ∧ isiB "str" "tuple" = false ∧ isiB "str" "list" = false ∧ isiB "str" "dict" = false ∧
    isiB "tuple" "str" = false ∧ isiB "tuple" "int" = false ∧ isiB "tuple" "bool" = false ∧ isiB "tuple" "tuple" = true ∧ isiB "tuple" "list" = false ∧ isiB "tuple" "dict" = false := by decide
def tysO : Option String → List String → Sto → DK → Prop
  | some t, ns, st, Q => Q (.bl (ns.any (isiB t))) st
  | none, _, _, _ => False
theorem tysO_some {t : String} {ns : List String} : tysO (some t) ns st Q = Q (.bl (ns.any (isiB t))) st := rfl
theorem mIsi_b {ns : List String} {m : ME} {env : Env} : mIsi ns m env st Q = m env st fun x st1 => tysO (tyD st1 x) ns st1 Q := by
  have e : (fun (x : D) (st1 : Sto) => ∃ t, tyD st1 x = some t ∧ Q (.bl (ns.any (isiB t))) st1) = fun x st1 => tysO (tyD st1 x) ns st1 Q := by
    funext x st1
    cases h : tyD st1 x with
    | none => simp [tysO]
    | some t => simp [tysO]
  unfold mIsi
  rw [e]
theorem oIsi_a {x : D} {n t : String} (h : tyD st x = some t) (hn : n ∈ ["int", "str", "bool", "tuple", "list", "dict"]) (q : Q (.bl (isiB t n)) st) : oIsi [x, .ty n] st Q := ⟨hn, t, h, q⟩
theorem oJoin_l {a : Addr} {s : Str} {ys : List Str} (h : rdL (st a) = some (ys.map D.str)) (hl : (ys.map (·.length)).sum + ys.length * s.length ≤ 16777216) (q : Q (.str (Txt.join s ys)) st) : oJoin (.str s) [.ref a] st Q := ⟨_, ys, h, texts_map ys, hl, q⟩
theorem endsOf_i {d : D} (q : Q d st) : (endsOf Q).rt d st := ⟨st, .refl, q⟩
theorem endsOf_n {env : Env} (q : Q .non st) : (endsOf Q).nx env st := ⟨st, .refl, q⟩
theorem wSeq_tup {xs : List D} {m : ME} {env : Env} {R : List D → (Sto → Prop) → Sto → Prop} (h : m env st fun x st1 => ∃ xs, x = .tup xs ∧ R xs (fun _ => True) st1) (mono : ∀ P P' : DK, (∀ d s, P d s → P' d s) → m env st P → m env st P') : wSeq m env st R :=
  mono _ _ (fun d s ⟨xs, e, r⟩ => by subst e; exact r) h
end

/-! operations that read an address: by what stands there -/
def vO : Option D → Sto → DK → Prop
  | some v, st, Q => Q v st
  | none, _, _ => False
theorem vO_some {v : D} {st : Sto} {Q : DK} : vO (some v) st Q = Q v st := rfl
theorem vO_eq {o : Option D} {st : Sto} {Q : DK} : (∃ v, o = some v ∧ Q v st) = vO o st Q := by
  apply propext
  cases o with
  | none => exact ⟨fun ⟨_, h, _⟩ => (by cases h), fun h => h.elim⟩
  | some v => exact ⟨fun ⟨_, h, q⟩ => (by cases h; exact q), fun h => ⟨v, rfl, h⟩⟩
theorem oIx_tupE {xs : List D} {i : Int} {st : Sto} {Q : DK} : oIx (.tup xs) (.int i) st Q = vO (atI xs i) st Q := vO_eq
def ixO : Option Ob → D → Sto → DK → Prop
  | some (.lst xs), .int i, st, Q => vO (atI xs i) st Q
  | some (.rol xs), .int i, st, Q => vO (atI xs i) st Q
  | some (.dic kvs), y, st, Q => vO ((keyD y).bind (valD kvs)) st Q
  | some (.rod kvs), y, st, Q => vO ((keyD y).bind (valD kvs)) st Q
  | _, _, _, _ => False
theorem oIx_ref {a : Addr} {y : D} {st : Sto} {Q : DK} : oIx (.ref a) y st Q = ixO (st a) y st Q := by
  have key : ∀ kvs : List (Key × D), vO ((keyD y).bind (valD kvs)) st Q = ∃ k v, keyD y = some k ∧ valD kvs k = some v ∧ Q v st := fun kvs => by
    rw [← vO_eq]
    apply propext
    constructor
    · rintro ⟨v, e, q⟩
      obtain ⟨k, e1, e2⟩ := Option.bind_eq_some_iff.mp e
      exact ⟨k, v, e1, e2, q⟩
    · rintro ⟨k, v, e1, e2, q⟩
      exact ⟨v, Option.bind_eq_some_iff.mpr ⟨k, e1, e2⟩, q⟩
  have lst : ∀ xs : List D, (∃ i v, y = .int i ∧ atI xs i = some v ∧ Q v st) = match y with | .int i => vO (atI xs i) st Q | _ => False := fun xs => by
    apply propext
    constructor
    · rintro ⟨i, v, rfl, e, q⟩
      show vO _ _ _
      rw [e]; exact q
    · intro h
      cases y <;> simp only at h
      rw [← vO_eq] at h
      obtain ⟨v, e, q⟩ := h
      exact ⟨_, v, rfl, e, q⟩
  apply propext
  constructor
  · rintro (⟨xs, i, v, h, rfl, e, q⟩ | ⟨kvs, k, v, h, ek, e, q⟩)
    · cases hs : st a with
      | none => rw [hs] at h; cases h
      | some o => cases o <;> rw [hs] at h <;> cases h <;> (show vO _ _ _; rw [e]; exact q)
    · cases hs : st a with
      | none => rw [hs] at h; cases h
      | some o => cases o <;> rw [hs] at h <;> cases h <;> (show vO _ _ _; rw [key]; exact ⟨k, v, ek, e, q⟩)
  · intro h
    cases hs : st a with
    | none => rw [hs] at h; exact h.elim
    | some o =>
      rw [hs] at h
      cases o with
      | lst xs =>
        refine .inl ?_
        cases y <;> simp only [ixO] at h
        rw [← vO_eq] at h
        obtain ⟨v, e, q⟩ := h
        exact ⟨xs, _, v, by rw [hs]; rfl, rfl, e, q⟩
      | rol xs =>
        refine .inl ?_
        cases y <;> simp only [ixO] at h
        rw [← vO_eq] at h
        obtain ⟨v, e, q⟩ := h
        exact ⟨xs, _, v, by rw [hs]; rfl, rfl, e, q⟩
      | dic kvs =>
        have h' : vO ((keyD y).bind (valD kvs)) st Q := by cases y <;> exact h
        rw [key] at h'
        obtain ⟨k, v, e1, e2, q⟩ := h'
        exact .inr ⟨kvs, k, v, by rw [hs]; rfl, e1, e2, q⟩
      | rod kvs =>
        have h' : vO ((keyD y).bind (valD kvs)) st Q := by cases y <;> exact h
        rw [key] at h'
        obtain ⟨k, v, e1, e2, q⟩ := h'
        exact .inr ⟨kvs, k, v, by rw [hs]; rfl, e1, e2, q⟩
      | raw u => exact h.elim
theorem ixO_lst {xs : List D} {i : Int} {st : Sto} {Q : DK} : ixO (some (.lst xs)) (.int i) st Q = vO (atI xs i) st Q := rfl
theorem ixO_dicI {kvs : List (Key × D)} {i : Int} {st : Sto} {Q : DK} : ixO (some (.dic kvs)) (.int i) st Q = vO (valD kvs (.inl i)) st Q := rfl
theorem ixO_dicS {kvs : List (Key × D)} {i : Str} {st : Sto} {Q : DK} : ixO (some (.dic kvs)) (.str i) st Q = vO (valD kvs (.inr i)) st Q := rfl
theorem ixO_rodI {kvs : List (Key × D)} {i : Int} {st : Sto} {Q : DK} : ixO (some (.rod kvs)) (.int i) st Q = vO (valD kvs (.inl i)) st Q := rfl
theorem ixO_rodS {kvs : List (Key × D)} {i : Str} {st : Sto} {Q : DK} : ixO (some (.rod kvs)) (.str i) st Q = vO (valD kvs (.inr i)) st Q := rfl
theorem ex_st {α : Type} {f : Ob → Option α} {o : Option Ob} {P : α → Prop} : (∃ x, o.bind f = some x ∧ P x) = match o.bind f with | some x => P x | none => False := by
  apply propext
  cases o.bind f with
  | none => simp
  | some v => simp
def lsO : Option Ob → (List D → Prop) → Prop
  | some (.lst xs), P => P xs
  | _, _ => False
theorem lsO_lst {xs : List D} {P : List D → Prop} : lsO (some (.lst xs)) P = P xs := rfl
theorem lsO_eq {o : Option Ob} {P : List D → Prop} : (∃ xs, o = some (.lst xs) ∧ P xs) = lsO o P := by
  apply propext
  constructor
  · rintro ⟨xs, rfl, h⟩; exact h
  · intro h
    cases o with
    | none => exact h.elim
    | some o => cases o <;> first | exact h.elim | exact ⟨_, rfl, h⟩
def rdO : Option Ob → (List D → Prop) → Prop
  | some (.lst xs), P => P xs
  | some (.rol xs), P => P xs
  | _, _ => False
theorem rdO_lst {xs : List D} {P : List D → Prop} : rdO (some (.lst xs)) P = P xs := rfl
theorem rdO_rol {xs : List D} {P : List D → Prop} : rdO (some (.rol xs)) P = P xs := rfl
theorem rdO_eq {o : Option Ob} {P : List D → Prop} : (∃ xs, rdL o = some xs ∧ P xs) = rdO o P := by
  apply propext
  constructor
  · rintro ⟨xs, e, h⟩
    cases o with
    | none => cases e
    | some o => cases o <;> cases e <;> exact h
  · intro h
    cases o with
    | none => exact h.elim
    | some o => cases o <;> first | exact h.elim | exact ⟨_, rfl, h⟩
theorem oAppend_ref {a : Addr} {y : D} {st : Sto} {Q : DK} : oAppend (.ref a) [y] st Q = lsO (st a) fun xs => xs.length < sizeLine ∧ Q .non (put st a (.lst (xs ++ [y]))) := lsO_eq
theorem oPop_ref {a : Addr} {st : Sto} {Q : DK} : oPop (.ref a) [] st Q = lsO (st a) fun xs => vO xs.getLast? (put st a (.lst xs.dropLast)) Q := by
  rw [← lsO_eq]
  apply propext
  constructor
  · rintro ⟨xs, y, e, e2, q⟩
    exact ⟨xs, e, by rw [← vO_eq]; exact ⟨y, e2, q⟩⟩
  · rintro ⟨xs, e, q⟩
    rw [← vO_eq] at q
    obtain ⟨y, e2, q⟩ := q
    exact ⟨xs, y, e, e2, q⟩
theorem oExtend_tupE {a : Addr} {ys : List D} {st : Sto} {Q : DK} : oExtend (.ref a) [.tup ys] st Q = lsO (st a) fun xs => xs.length + ys.length ≤ sizeLine ∧ Q .non (put st a (.lst (xs ++ ys))) := lsO_eq
theorem oTuple_ref {a : Addr} {st : Sto} {Q : DK} : oTuple [.ref a] st Q = rdO (st a) fun xs => Q (.tup xs) st := rdO_eq
theorem oSl_ref {a : Addr} {lo hi : Option Int} {st : Sto} {Q : DK} : oSl (.ref a) lo hi st Q = rdO (st a) fun xs => ∀ p, Nf st p → Q (.ref p) (put st p (.lst (cutL xs lo hi))) := rdO_eq
theorem oList_ref {a : Addr} {st : Sto} {Q : DK} : oList [.ref a] st Q = rdO (st a) fun xs => ∀ p, Nf st p → Q (.ref p) (put st p (.lst xs)) := rdO_eq
def lenO : Option Ob → Sto → DK → Prop
  | some (.lst xs), st, Q => Q (.int xs.length) st
  | some (.rol xs), st, Q => Q (.int xs.length) st
  | some (.dic xs), st, Q => Q (.int xs.length) st
  | _, _, _ => False
theorem lenO_lst {xs : List D} {st : Sto} {Q : DK} : lenO (some (.lst xs)) st Q = Q (.int xs.length) st := rfl
theorem lenO_rol {xs : List D} {st : Sto} {Q : DK} : lenO (some (.rol xs)) st Q = Q (.int xs.length) st := rfl
theorem lenO_dic {xs : List (Key × D)} {st : Sto} {Q : DK} : lenO (some (.dic xs)) st Q = Q (.int xs.length) st := rfl
theorem oLen_ref {a : Addr} {st : Sto} {Q : DK} : oLen [.ref a] st Q = lenO (st a) st Q := by
  apply propext
  constructor
  · rintro (⟨xs, e, h⟩ | ⟨kvs, e, h⟩)
    · cases hs : st a with
      | none => rw [hs] at e; cases e
      | some o => cases o <;> rw [hs] at e <;> cases e <;> exact h
    · rw [e]; exact h
  · intro h
    cases hs : st a with
    | none => rw [hs] at h; exact h.elim
    | some o =>
      rw [hs] at h
      cases o with
      | lst xs => exact .inl ⟨xs, by rw [hs]; rfl, h⟩
      | rol xs => exact .inl ⟨xs, by rw [hs]; rfl, h⟩
      | dic xs => exact .inr ⟨xs, hs, h⟩
      | rod xs => exact h.elim
      | raw u => exact h.elim
def addO : Option Ob → Option Ob → Sto → DK → Prop
  | some (.lst xs), some (.lst ys), st, Q => xs.length + ys.length ≤ sizeLine ∧ ∀ p, Nf st p → Q (.ref p) (put st p (.lst (xs ++ ys)))
  | _, _, _, _ => False
theorem addO_lst {xs ys : List D} {st : Sto} {Q : DK} : addO (some (.lst xs)) (some (.lst ys)) st Q = (xs.length + ys.length ≤ sizeLine ∧ ∀ p, Nf st p → Q (.ref p) (put st p (.lst (xs ++ ys)))) := rfl
theorem oAdd_ref {a b : Addr} {st : Sto} {Q : DK} : oAdd (.ref a) (.ref b) st Q = addO (st a) (st b) st Q := by
  apply propext
  constructor
  · rintro ⟨xs, ys, e1, e2, h⟩
    rw [e1, e2]; exact h
  · intro h
    cases h1 : st a with
    | none => rw [h1] at h; exact h.elim
    | some o =>
      cases h2 : st b with
      | none => rw [h1, h2] at h; cases o <;> exact h.elim
      | some u =>
        rw [h1, h2] at h
        cases o <;> cases u <;> first | exact h.elim | exact ⟨_, _, h1, h2, h⟩
def inO : Option Ob → D → Sto → DK → Prop
  | some (.lst xs), x, st, Q => flatD x = true ∧ xs.all flatD = true ∧ Q (.bl (inF x xs)) st
  | some (.dic kvs), x, st, Q => ∃ k, keyD x = some k ∧ Q (.bl (valD kvs k).isSome) st
  | _, _, _, _ => False
theorem inO_lst {xs : List D} {x : D} {st : Sto} {Q : DK} : inO (some (.lst xs)) x st Q = (flatD x = true ∧ xs.all flatD = true ∧ Q (.bl (inF x xs)) st) := rfl
theorem inO_dicS {kvs : List (Key × D)} {x : Str} {st : Sto} {Q : DK} : inO (some (.dic kvs)) (.str x) st Q = Q (.bl (valD kvs (.inr x)).isSome) st := by
  apply propext
  constructor
  · rintro ⟨k, e, q⟩; cases e; exact q
  · exact fun q => ⟨_, rfl, q⟩
theorem inO_dicI {kvs : List (Key × D)} {x : Int} {st : Sto} {Q : DK} : inO (some (.dic kvs)) (.int x) st Q = Q (.bl (valD kvs (.inl x)).isSome) st := by
  apply propext
  constructor
  · rintro ⟨k, e, q⟩; cases e; exact q
  · exact fun q => ⟨_, rfl, q⟩
/-- one way is enough: what stands there gives the test -/
theorem oIn_ref {a : Addr} {x : D} {st : Sto} {Q : DK} (h : inO (st a) x st Q) : oIn x (.ref a) st Q := by
  cases hs : st a with
  | none => rw [hs] at h; exact h.elim
  | some o =>
    rw [hs] at h
    cases o with
    | lst xs => exact oIn_l (by rw [hs]; rfl) h.1 h.2.1 h.2.2
    | dic kvs =>
      obtain ⟨k, e, q⟩ := h
      exact oIn_d (by rw [hs]; rfl) e q
    | rol xs => exact h.elim
    | rod xs => exact h.elim
    | raw u => exact h.elim
def setO : Option Ob → Addr → D → D → Sto → (Sto → Prop) → Prop
  | some (.lst xs), a, .int i, v, st, Q => ∃ j, ixN xs.length i = some j ∧ Q (put st a (.lst (xs.set j v)))
  | some (.dic kvs), a, y, v, st, Q => kvs.length < sizeLine ∧ ∃ k, keyD y = some k ∧ Q (put st a (.dic (putD kvs k v)))
  | _, _, _, _, _, _ => False
theorem setO_dicS {kvs : List (Key × D)} {a : Addr} {x : Str} {v : D} {st : Sto} {Q : Sto → Prop} : setO (some (.dic kvs)) a (.str x) v st Q = (kvs.length < sizeLine ∧ Q (put st a (.dic (putD kvs (.inr x) v)))) := by
  apply propext
  constructor
  · rintro ⟨h, k, e, q⟩; cases e; exact ⟨h, q⟩
  · exact fun ⟨h, q⟩ => ⟨h, _, rfl, q⟩
theorem setO_dicI {kvs : List (Key × D)} {a : Addr} {x : Int} {v : D} {st : Sto} {Q : Sto → Prop} : setO (some (.dic kvs)) a (.int x) v st Q = (kvs.length < sizeLine ∧ Q (put st a (.dic (putD kvs (.inl x) v)))) := by
  apply propext
  constructor
  · rintro ⟨h, k, e, q⟩; cases e; exact ⟨h, q⟩
  · exact fun ⟨h, q⟩ => ⟨h, _, rfl, q⟩
theorem setO_lst {xs : List D} {a : Addr} {i : Int} {v : D} {st : Sto} {Q : Sto → Prop} : setO (some (.lst xs)) a (.int i) v st Q = ∃ j, ixN xs.length i = some j ∧ Q (put st a (.lst (xs.set j v))) := rfl
theorem oSet_ref {a : Addr} {y v : D} {st : Sto} {Q : Sto → Prop} : oSet (.ref a) y v st Q = setO (st a) a y v st Q := by
  apply propext
  constructor
  · rintro (⟨xs, i, j, e, rfl, e2, q⟩ | ⟨kvs, k, e, e2, h, q⟩)
    · rw [e]; exact ⟨j, e2, q⟩
    · rw [e]
      cases y <;> exact ⟨h, k, e2, q⟩
  · intro h
    cases hs : st a with
    | none => rw [hs] at h; exact h.elim
    | some o =>
      rw [hs] at h
      cases o with
      | lst xs =>
        cases y <;> simp only [setO] at h
        obtain ⟨j, e, q⟩ := h
        exact .inl ⟨xs, _, j, hs, rfl, e, q⟩
      | dic kvs =>
        have h' : kvs.length < sizeLine ∧ ∃ k, keyD y = some k ∧ Q (put st a (.dic (putD kvs k v))) := by cases y <;> exact h
        obtain ⟨h1, k, e, q⟩ := h'
        exact .inr ⟨kvs, k, hs, e, h1, q⟩
      | rol xs => exact h.elim
      | rod xs => exact h.elim
      | raw u => exact h.elim
theorem isL_ref {a : Addr} {st : Sto} : isL (.ref a) st = rdO (st a) fun _ => True := by
  rw [← rdO_eq]
  apply propext
  constructor
  · rintro ⟨b, xs, e, h⟩; cases e; exact ⟨xs, h, trivial⟩
  · rintro ⟨xs, h, _⟩; exact ⟨a, xs, rfl, h⟩
theorem isS_str {z : Str} {st : Sto} : isS (.str z) st = True := by
  apply propext
  exact ⟨fun _ => trivial, fun _ => ⟨z, rfl⟩⟩
def revO : D → Sto → DK → Prop
  | .ref a, st, Q => rdO (st a) fun xs => ∀ p, Nf st p → Q (.ref p) (put st p (.lst xs.reverse))
  | _, _, _ => False
theorem revO_ref {a : Addr} {st : Sto} {Q : DK} : revO (.ref a) st Q = rdO (st a) fun xs => ∀ p, Nf st p → Q (.ref p) (put st p (.lst xs.reverse)) := rfl
theorem mRev_a {m : ME} {env : Env} {st : Sto} {Q : DK} : mRev m env st Q = m env st fun x st1 => revO x st1 Q := by
  have e : (fun (x : D) (st1 : Sto) => ∃ a xs, x = .ref a ∧ rdL (st1 a) = some xs ∧ ∀ p, Nf st1 p → Q (.ref p) (put st1 p (.lst xs.reverse))) = fun x st1 => revO x st1 Q := by
    funext x st1
    cases x <;> try simp [revO]
    rw [← rdO_eq]
  unfold mRev
  rw [e]
theorem atI_zero {α : Type} {x : α} {xs : List α} : atI (x :: xs) 0 = some x := by
  simp [atI, ixN]
theorem atI_one {α : Type} {x y : α} {xs : List α} : atI (x :: y :: xs) 1 = some y := by
  have h : (1 : Int) < ((x :: y :: xs).length : Nat) := by simp; omega
  simp only [atI, ixN, if_pos (show (0 : Int) ≤ 1 by omega), if_pos h]
  rfl
theorem atI_two {α : Type} {x y z : α} {xs : List α} : atI (x :: y :: z :: xs) 2 = some z := by
  have h : (2 : Int) < ((x :: y :: z :: xs).length : Nat) := by simp; omega
  simp only [atI, ixN, if_pos (show (0 : Int) ≤ 2 by omega), if_pos h]
  rfl
theorem atI_end {α : Type} {xs : List α} : atI xs (-1) = xs.getLast? := by
  rcases List.eq_nil_or_concat xs with rfl | ⟨l, x, rfl⟩
  · rfl
  · rw [List.concat_eq_append, atI_last, List.getLast?_concat]
theorem atI_ofNat {α : Type} {xs : List α} {j : Nat} : atI xs (j : Int) = xs[j]? := by
  unfold atI ixN
  by_cases h : (j : Int) < (xs.length : Nat)
  · simp only [if_pos (show (0 : Int) ≤ j by omega), if_pos h, Int.toNat_natCast, Option.bind_some]
  · simp only [if_pos (show (0 : Int) ≤ j by omega), if_neg h, Option.bind_none]
    rw [List.getElem?_eq_none (by omega)]
/-- what is walked -/
def sqO : D → Sto → (List D → (Sto → Prop) → Sto → Prop) → Prop
  | .tup xs, st, Q => Q xs (fun _ => True) st
  | .str z, st, Q => Q (signsD z) (fun _ => True) st
  | .ref a, st, Q => rdO (st a) fun xs => Q xs (fun st => rdL (st a) = some xs) st
  | _, _, _ => False
theorem wSeq_a {m : ME} {env : Env} {st : Sto} {Q : List D → (Sto → Prop) → Sto → Prop} : wSeq m env st Q = m env st fun x st1 => sqO x st1 Q := by
  have e : (fun (x : D) (st1 : Sto) => match x with
    | .tup xs => Q xs (fun _ => True) st1
    | .str z => Q (signsD z) (fun _ => True) st1
    | .ref a => ∃ xs, rdL (st1 a) = some xs ∧ Q xs (fun st => rdL (st a) = some xs) st1
    | _ => False) = fun x st1 => sqO x st1 Q := by
    funext x st1
    cases x <;> simp only [sqO]
    rw [rdO_eq]
  unfold wSeq
  rw [← e]
  try rfl
theorem sqO_tup {xs : List D} {st : Sto} {Q : List D → (Sto → Prop) → Sto → Prop} : sqO (.tup xs) st Q = Q xs (fun _ => True) st := rfl
theorem sqO_str {z : Str} {st : Sto} {Q : List D → (Sto → Prop) → Sto → Prop} : sqO (.str z) st Q = Q (signsD z) (fun _ => True) st := rfl
theorem sqO_ref {a : Addr} {st : Sto} {Q : List D → (Sto → Prop) → Sto → Prop} : sqO (.ref a) st Q = rdO (st a) fun xs => Q xs (fun st => rdL (st a) = some xs) st := rfl
theorem wRng1_a {m : ME} {env : Env} {st : Sto} {Q : List D → (Sto → Prop) → Sto → Prop} : wRng1 m env st Q = m env st fun x st1 => iAt x st1 fun j st2 => (-(2 ^ 62) ≤ j ∧ j < 2 ^ 62) ∧ Q (rangeD 0 j.toNat) (fun _ => True) st2 := by
  have e : (fun x st1 => ∃ j, x = D.int j ∧ (-(2 ^ 62) ≤ j ∧ j < 2 ^ 62) ∧ Q (rangeD 0 j.toNat) (fun _ => True) st1) = fun x st1 => iAt x st1 fun j st2 => (-(2 ^ 62) ≤ j ∧ j < 2 ^ 62) ∧ Q (rangeD 0 j.toNat) (fun _ => True) st2 := by
    funext x st1
    cases x <;> simp [iAt]
  unfold wRng1
  rw [e]
/-- a walk's turns -/
def forO (xs : List D) (ok : Sto → Prop) (g : MG) (b : MS) (D : DEnds) (env : Env) (st1 : Sto) : Prop := ∃ W : Nat → Env → Sto → Prop, W 0 env st1 ∧ (∀ i env st, i ≤ xs.length → W i env st → ok st) ∧
  (∀ i x env st, xs[i]? = some x → W i env st → g x env st fun env2 st2 => b { nx := W (i + 1), rt := D.rt, bk := D.nx, ct := W (i + 1) } env2 st2) ∧
  (∀ env st, W xs.length env st → D.nx env st)
theorem sFor_a {mi : MI} {g : MG} {b : MS} {D : DEnds} {env : Env} {st : Sto} : sFor mi g b D env st = mi env st fun xs ok st1 => forO xs ok g b D env st1 := rfl
def lcO (xs : List D) (ok : Sto → Prop) (g : MG) (mt : MT) (me : ME) (ws : List Nat) (env : Env) (st1 : Sto) (Q : DK) : Prop := ∀ p, Nf st1 p → ∃ W : Nat → List D → Sto → Prop, W 0 [] (put st1 p (.lst [])) ∧
  (∀ i acc st, i ≤ xs.length → W i acc st → ok st ∧ st p = some (.lst acc)) ∧
  (∀ i acc x st, xs[i]? = some x → W i acc st → g x (wipeE env ws) st fun env2 st2 => mt env2 st2 fun b st3 =>
    if b = true then me env2 st3 fun y st4 => st4 p = some (.lst acc) ∧ acc.length < sizeLine ∧ W (i + 1) (acc ++ [y]) (put st4 p (.lst (acc ++ [y]))) else W (i + 1) acc st3) ∧
  (∀ acc st, W xs.length acc st → Q (.ref p) st)
theorem mLc_a {mi : MI} {g : MG} {mt : MT} {me : ME} {ws : List Nat} {env : Env} {st : Sto} {Q : DK} : mLc mi g mt me ws env st Q = mi env st fun xs ok st1 => lcO xs ok g mt me ws env st1 Q := rfl
def dcO (xs : List D) (ok : Sto → Prop) (g : MG) (mt : MT) (mk mv : ME) (ws : List Nat) (env : Env) (st1 : Sto) (Q : DK) : Prop := ∀ p, Nf st1 p → ∃ W : Nat → List (Key × D) → Sto → Prop, W 0 [] (put st1 p (.dic [])) ∧
  (∀ i acc st, i ≤ xs.length → W i acc st → ok st ∧ st p = some (.dic acc)) ∧
  (∀ i acc x st, xs[i]? = some x → W i acc st → g x (wipeE env ws) st fun env2 st2 => mt env2 st2 fun b st3 =>
    if b = true then mk env2 st3 fun y st4 => mv env2 st4 fun z st5 => ∃ k, keyD y = some k ∧ st5 p = some (.dic acc) ∧ acc.length < sizeLine ∧ W (i + 1) (putD acc k z) (put st5 p (.dic (putD acc k z))) else W (i + 1) acc st3) ∧
  (∀ acc st, W xs.length acc st → Q (.ref p) st)
theorem mDc_a {mi : MI} {g : MG} {mt : MT} {mk mv : ME} {ws : List Nat} {env : Env} {st : Sto} {Q : DK} : mDc mi g mt mk mv ws env st Q = mi env st fun xs ok st1 => dcO xs ok g mt mk mv ws env st1 Q := rfl

/-! one statement and the rest -/
section
variable {D0 : DEnds} {env : Env} {st : Sto} {u : MS}
theorem sqAsg_a {m : ME} {g : MG} : sSeq (sAsg m g) u D0 env st = m env st fun d st1 => g d env st1 fun env2 st2 => u D0 env2 st2 := rfl
theorem sqDrop_a {m : ME} : sSeq (sDrop m) u D0 env st = m env st fun _ st1 => u D0 env st1 := rfl
theorem sqPar_a {i j : Nat} {a b : ME} : sSeq (sPar i j (mCons a (mCons b mNil))) u D0 env st = a env st fun x st1 => b env st1 fun y st2 => u D0 ((env.set i (some x)).set j (some y)) st2 := by
  rw [sSeq_a, sPar_a]
theorem sqPar3_a {i j l : Nat} {a b c : ME} : sSeq (sPar3 i j l (mCons a (mCons b (mCons c mNil)))) u D0 env st = a env st fun x st1 => b env st1 fun y st2 => c env st2 fun z st3 => u D0 (((env.set i (some x)).set j (some y)).set l (some z)) st3 := by
  rw [sSeq_a, sPar3_a]
theorem sqIf_a {c : MT} {t v : MS} : sSeq (sIf c t v) u D0 env st = c env st fun b st1 => if b = true then sSeq t u D0 env st1 else sSeq v u D0 env st1 := rfl
theorem sqNext_a : sSeq sNext u D0 env st = u D0 env st := rfl
theorem sqRet_a {m : ME} : sSeq (sRet m) u D0 env st = m env st D0.rt := rfl
theorem sqSeq_a {t v : MS} : sSeq (sSeq t v) u D0 env st = sSeq t (sSeq v u) D0 env st := rfl
/-- the rest held back -/
theorem sSeq_t {t : MS} (h : ∀ T : MS, u = T → sSeq t T D0 env st) : sSeq t u D0 env st := h u rfl
/-- what stands between a statement and the rest -/
theorem sSeq_i {t : MS} (X : Env → Sto → Prop) (h : ∀ nx, (∀ env st, X env st → nx env st) → t { nx := nx, rt := D0.rt, bk := D0.bk, ct := D0.ct } env st) (fin : ∀ env st, X env st → u D0 env st) : sSeq t u D0 env st := h _ fin
end

/-! ### stores that stay -/
def nr : Ob → Prop
  | .rol _ => False
  | _ => True
def Keep (st st' : Sto) : Prop := ∀ a o, nr o → st a = some o → st' a = some o
theorem Keep.refl {st : Sto} : Keep st st := fun _ _ _ h => h
theorem Keep.trans {a b c : Sto} (h : Keep a b) (k : Keep b c) : Keep a c := fun _ _ n e => k _ _ n (h _ _ n e)
theorem Nf.not {st : Sto} {p a : Addr} {o : Ob} (h : Nf st p) (e : st a = some o) (n : nr o) : a ≠ p := by
  rintro rfl
  rcases h with h | ⟨_, h⟩ <;> rw [e] at h <;> cases h
  exact n
theorem Keep.put {st : Sto} {p : Addr} {o : Ob} (h : Nf st p) : Keep st (put st p o) := fun a u n e => by
  rw [put_ne (h.not e n)]; exact e
theorem Keep.new {st st' : Sto} {p : Addr} {o : Ob} (k : Keep st st') (h : Nf st' p) : Keep st (DL.put st' p o) := k.trans (Keep.put h)
/-- an object that was new may change -/
theorem Keep.mut {st st' : Sto} {p : Addr} {o : Ob} (k : Keep st st') (h : Nf st p) : Keep st (DL.put st' p o) := fun a u n e => by
  rw [put_ne (h.not e n)]; exact k _ _ n e

theorem Keep.l {st st' : Sto} {a : Addr} {xs : List D} (k : Keep st st') (h : st a = some (.lst xs)) : st' a = some (.lst xs) := k a _ trivial h
theorem Keep.d {st st' : Sto} {a : Addr} {xs : List (Key × D)} (k : Keep st st') (h : st a = some (.dic xs)) : st' a = some (.dic xs) := k a _ trivial h

/-! ### the deal of draws -/
structure DealAt (st : Sto) (n m : Addr) (cells : List Int) (mix : Int) : Prop where
  ln : st n = some (.lst [.ref m, .int mix])
  lm : st m = some (.lst (cells.map D.int))
  nn : ∀ c ∈ cells, 0 ≤ c
  m0 : 0 ≤ mix
  m1 : mix < 2147483647
  sz : cells.length ≤ 63
theorem DealAt.ne {st : Sto} {n m : Addr} {cells : List Int} {mix : Int} (h : DealAt st n m cells mix) : n ≠ m := by
  rintro rfl
  have e := h.ln.symm.trans h.lm
  simp only [Option.some.injEq, Ob.lst.injEq] at e
  cases cells with
  | nil => simp at e
  | cons c cs => simp at e
def Deal (st : Sto) (n m : Addr) : Prop := ∃ cells mix, DealAt st n m cells mix
/-- behind draws -/
structure Up (n m : Addr) (st st' : Sto) : Prop where
  keep : ∀ a o, a ≠ n → a ≠ m → nr o → st a = some o → st' a = some o
  deal : Deal st' n m
theorem Up.l {n m a : Addr} {st st' : Sto} {xs : List D} (u : Up n m st st') (h1 : a ≠ n) (h2 : a ≠ m) (h : st a = some (.lst xs)) : st' a = some (.lst xs) := u.keep a _ h1 h2 trivial h
theorem Up.d {n m a : Addr} {st st' : Sto} {xs : List (Key × D)} (u : Up n m st st') (h1 : a ≠ n) (h2 : a ≠ m) (h : st a = some (.dic xs)) : st' a = some (.dic xs) := u.keep a _ h1 h2 trivial h
theorem Deal.keep {st st' : Sto} {n m : Addr} (h : Deal st n m) (k : Keep st st') : Deal st' n m := by
  obtain ⟨c, x, h⟩ := h
  exact ⟨c, x, k _ _ trivial h.ln, k _ _ trivial h.lm, h.nn, h.m0, h.m1, h.sz⟩
theorem Up.refl {st : Sto} {n m : Addr} (h : Deal st n m) : Up n m st st := ⟨fun _ _ _ _ _ e => e, h⟩
theorem Up.trans {a b c : Sto} {n m : Addr} (h : Up n m a b) (k : Up n m b c) : Up n m a c := ⟨fun x o h1 h2 hn e => k.keep x o h1 h2 hn (h.keep x o h1 h2 hn e), k.deal⟩
theorem Up.then {a b c : Sto} {n m : Addr} (h : Up n m a b) (k : Keep b c) : Up n m a c := ⟨fun x o h1 h2 hn e => k _ _ hn (h.keep x o h1 h2 hn e), h.deal.keep k⟩
theorem Up.of {a b : Sto} {n m : Addr} (h : Deal a n m) (k : Keep a b) : Up n m a b := ⟨fun x o _ _ hn e => k _ _ hn e, h.keep k⟩
theorem Up.put {a b : Sto} {n m p : Addr} {o : Ob} (h : Up n m a b) (f : Nf a p) (g : p ≠ n) (g' : p ≠ m) : Up n m a (DL.put b p o) := ⟨fun x u h1 h2 hn e => by
  rw [put_ne (f.not e hn)]; exact h.keep x u h1 h2 hn e, by
  obtain ⟨c, x, d⟩ := h.deal
  exact ⟨c, x, by rw [put_ne g.symm]; exact d.ln, by rw [put_ne g'.symm]; exact d.lm, d.nn, d.m0, d.m1, d.sz⟩⟩
theorem Nf.deal {st : Sto} {n m p : Addr} (h : Nf st p) (d : Deal st n m) : p ≠ n ∧ p ≠ m := by
  obtain ⟨c, x, d⟩ := d
  exact ⟨h.ne d.ln, h.ne d.lm⟩
theorem Deal.put {st : Sto} {n m p : Addr} {o : Ob} (h : Deal st n m) (g : p ≠ n) (g' : p ≠ m) : Deal (DL.put st p o) n m := by
  obtain ⟨c, x, d⟩ := h
  exact ⟨c, x, by rw [put_ne g.symm]; exact d.ln, by rw [put_ne g'.symm]; exact d.lm, d.nn, d.m0, d.m1, d.sz⟩
end L2.DL

namespace L2.DL
open PySem PySem.Spec PyProof.Rows

/-! ### list comprehensions by what each item gives -/
inductive Fm (F : D → Option D → Prop) : List D → List D → Prop
  | nil : Fm F [] []
  | yes {x y : D} {xs ys : List D} : F x (some y) → Fm F xs ys → Fm F (x :: xs) (y :: ys)
  | no {x : D} {xs ys : List D} : F x none → Fm F xs ys → Fm F (x :: xs) ys
theorem Fm.snoc {F : D → Option D → Prop} {xs ys : List D} (h : Fm F xs ys) {x y : D} (k : F x (some y)) : Fm F (xs ++ [x]) (ys ++ [y]) := by
  induction h with
  | nil => exact .yes k .nil
  | yes a _ ih => exact .yes a ih
  | no a _ ih => exact .no a ih
theorem Fm.skip {F : D → Option D → Prop} {xs ys : List D} (h : Fm F xs ys) {x : D} (k : F x none) : Fm F (xs ++ [x]) ys := by
  induction h with
  | nil => exact .no k .nil
  | yes a _ ih => exact .yes a ih
  | no a _ ih => exact .no a ih
theorem Fm.len {F : D → Option D → Prop} {xs ys : List D} (h : Fm F xs ys) : ys.length ≤ xs.length := by
  induction h with
  | nil => exact Nat.le_refl _
  | yes _ _ ih => simpa using ih
  | no _ _ ih => simp; omega
theorem Fm.fun {f : D → Option D} {xs ys : List D} (h : Fm (fun x o => o = f x) xs ys) : ys = xs.filterMap f := by
  induction h with
  | nil => rfl
  | yes a _ ih => rw [List.filterMap_cons_some a.symm, ih]
  | no a _ ih => rw [List.filterMap_cons_none a.symm, ih]
theorem Fm.strs {P : Str → Prop} {xs ys : List D} (h : Fm (fun _ o => ∃ s, o = some (.str s) ∧ P s) xs ys) : ∃ cs : List Str, ys = cs.map D.str ∧ cs.length = xs.length ∧ ∀ s ∈ cs, P s := by
  induction h with
  | nil => exact ⟨[], rfl, rfl, fun _ h => by cases h⟩
  | yes a _ ih =>
    obtain ⟨cs, rfl, h1, h2⟩ := ih
    obtain ⟨s, e, p⟩ := a
    cases e
    refine ⟨s :: cs, rfl, by simp [h1], fun t ht => ?_⟩
    rcases List.mem_cons.mp ht with rfl | ht
    · exact p
    · exact h2 t ht
  | no a _ _ =>
    obtain ⟨s, e, _⟩ := a
    cases e
theorem take_snoc {α : Type} {xs : List α} {i : Nat} {x : α} (h : xs[i]? = some x) : xs.take (i + 1) = xs.take i ++ [x] := by
  rw [List.take_add_one, h]
  rfl
section
variable {env : Env} {g : MG} {mt : MT} {me : ME} {ws : List Nat} {xs : List D} {ok : Sto → Prop} {st1 : Sto} {Q : DK}
/-- behind draws -/
theorem lc_up {n m : Addr} (F : D → Option D → Prop) (hd : Deal st1 n m) (hok : ∀ st', Up n m st1 st' → ok st') (hl : xs.length ≤ sizeLine)
    (turn : ∀ x ∈ xs, ∀ st2, Up n m st1 st2 → ∀ (P : DK) (N : Sto → Prop), (∀ y st3, F x (some y) → Up n m st2 st3 → P y st3) → (∀ st3, F x none → Up n m st2 st3 → N st3) → g x (wipeE env ws) st2 fun env2 st3 => mt env2 st3 fun b st4 => if b = true then me env2 st4 P else N st4)
    (fin : ∀ p ys st', Nf st1 p → Fm F xs ys → Up n m st1 st' → st' p = some (.lst ys) → Q (.ref p) st') :
    lcO xs ok g mt me ws env st1 Q := by
  intro p hp
  obtain ⟨pn, pm⟩ := hp.deal hd
  refine ⟨fun i acc st => Fm F (xs.take i) acc ∧ Up n m st1 st ∧ st p = some (.lst acc), ⟨by simpa using Fm.nil, (Up.refl hd).put hp pn pm, put_same⟩, fun i acc st _ ⟨_, u, e⟩ => ⟨hok st u, e⟩, fun i acc x st hx ⟨hf, u, e⟩ => ?_, fun acc st ⟨hf, u, e⟩ => fin p acc st hp (by simpa using hf) u e⟩
  have hlen : acc.length < sizeLine := by
    have h1 := hf.len
    have h2 : i < xs.length := by
      have := List.getElem?_eq_some_iff.mp hx
      exact this.1
    rw [List.length_take] at h1
    omega
  refine turn x (List.mem_of_getElem? hx) st u _ _ (fun y st5 h1 h2 => ?_) (fun st5 h1 h2 => ?_)
  · refine ⟨h2.keep _ _ pn pm trivial e, hlen, ?_, (u.trans h2).put hp pn pm, put_same⟩
    rw [take_snoc hx]
    exact hf.snoc h1
  · refine ⟨?_, u.trans h2, h2.keep _ _ pn pm trivial e⟩
    rw [take_snoc hx]
    exact hf.skip h1
/-- no draws -/
theorem lc_keep (f : D → Option D) (hok : ∀ st', Keep st1 st' → ok st') (hl : xs.length ≤ sizeLine)
    (turn : ∀ x ∈ xs, ∀ st2, Keep st1 st2 → ∀ (P : DK) (N : Sto → Prop), (∀ y st3, f x = some y → Keep st2 st3 → P y st3) → (∀ st3, f x = none → Keep st2 st3 → N st3) → g x (wipeE env ws) st2 fun env2 st3 => mt env2 st3 fun b st4 => if b = true then me env2 st4 P else N st4)
    (fin : ∀ p st', Nf st1 p → Keep st1 st' → st' p = some (.lst (xs.filterMap f)) → Q (.ref p) st') :
    lcO xs ok g mt me ws env st1 Q := by
  intro p hp
  refine ⟨fun i acc st => acc = (xs.take i).filterMap f ∧ Keep st1 st ∧ st p = some (.lst acc), ⟨by simp, Keep.put hp, put_same⟩, fun i acc st _ ⟨_, u, e⟩ => ⟨hok st u, e⟩, fun i acc x st hx ⟨hf, u, e⟩ => ?_, fun acc st ⟨hf, u, e⟩ => fin p st hp u (by rw [e, hf, List.take_length])⟩
  have hlen : acc.length < sizeLine := by
    have h1 : acc.length ≤ (xs.take i).length := by rw [hf]; exact List.length_filterMap_le ..
    have h2 : i < xs.length := by
      have := List.getElem?_eq_some_iff.mp hx
      exact this.1
    rw [List.length_take] at h1
    omega
  refine turn x (List.mem_of_getElem? hx) st u _ _ (fun y st5 h1 h2 => ?_) (fun st5 h1 h2 => ?_)
  · refine ⟨h2 _ _ trivial e, hlen, ?_, (u.trans h2).mut hp, put_same⟩
    rw [take_snoc hx, List.filterMap_append, hf]
    simp [h1]
  · refine ⟨?_, u.trans h2, h2 _ _ trivial e⟩
    rw [take_snoc hx, List.filterMap_append, hf]
    simp [h1]
/-- dict comprehensions without draws -/
theorem dc_keep {mk mv : ME} (f : D → Option (Key × D)) (hok : ∀ st', Keep st1 st' → ok st') (hl : xs.length ≤ sizeLine)
    (turn : ∀ x ∈ xs, ∀ st2, Keep st1 st2 → ∀ (P : D → D → Sto → Prop) (N : Sto → Prop), (∀ k y z st3, f x = some (k, z) → keyD y = some k → Keep st2 st3 → P y z st3) → (∀ st3, f x = none → Keep st2 st3 → N st3) → g x (wipeE env ws) st2 fun env2 st3 => mt env2 st3 fun b st4 => if b = true then mk env2 st4 fun y st5 => mv env2 st5 fun z st6 => P y z st6 else N st4)
    (fin : ∀ p st', Nf st1 p → Keep st1 st' → st' p = some (.dic ((xs.filterMap f).foldl (fun acc kv => putD acc kv.1 kv.2) [])) → Q (.ref p) st') :
    dcO xs ok g mt mk mv ws env st1 Q := by
  intro p hp
  have len : ∀ l : List (Key × D), ∀ acc : List (Key × D), (l.foldl (fun acc kv => putD acc kv.1 kv.2) acc).length ≤ acc.length + l.length := by
    intro l
    induction l with
    | nil => exact fun acc => Nat.le_refl _
    | cons kv l ih =>
      intro acc
      have h1 := ih (putD acc kv.1 kv.2)
      have h2 : (putD acc kv.1 kv.2).length ≤ acc.length + 1 := by
        unfold putD
        split <;> simp
      simp only [List.foldl_cons, List.length_cons]
      omega
  refine ⟨fun i acc st => acc = ((xs.take i).filterMap f).foldl (fun acc kv => putD acc kv.1 kv.2) [] ∧ Keep st1 st ∧ st p = some (.dic acc), ⟨by simp, Keep.put hp, put_same⟩, fun i acc st _ ⟨_, u, e⟩ => ⟨hok st u, e⟩, fun i acc x st hx ⟨hf, u, e⟩ => ?_, fun acc st ⟨hf, u, e⟩ => fin p st hp u (by rw [e, hf, List.take_length])⟩
  have hlen : acc.length < sizeLine := by
    have h1 : acc.length ≤ (xs.take i).length := by
      rw [hf]
      have a := len ((xs.take i).filterMap f) []
      have b : ((xs.take i).filterMap f).length ≤ (xs.take i).length := List.length_filterMap_le ..
      simp only [List.length_nil] at a
      omega
    have h2 : i < xs.length := by
      have := List.getElem?_eq_some_iff.mp hx
      exact this.1
    rw [List.length_take] at h1
    omega
  refine turn x (List.mem_of_getElem? hx) st u _ _ (fun k y z st5 h1 h0 h2 => ?_) (fun st5 h1 h2 => ?_)
  · refine ⟨k, h0, h2 _ _ trivial e, hlen, ?_, (u.trans h2).mut hp, put_same⟩
    rw [take_snoc hx, List.filterMap_append, List.foldl_append, hf]
    simp [h1]
  · refine ⟨?_, u.trans h2, h2 _ _ trivial e⟩
    rw [take_snoc hx, List.filterMap_append, List.foldl_append, hf]
    simp [h1]
end
/-- by the texts, by the ints -/
def onS (g : Str → Option D) : D → Option D
  | .str b => g b
  | _ => none
theorem onS_map (g : Str → Option D) (l : List Str) : (l.map D.str).filterMap (onS g) = l.filterMap g := by
  rw [List.filterMap_map]; rfl
theorem onS_str (g : Str → Option D) (b : Str) : onS g (.str b) = g b := rfl
def onI (g : Int → Option D) : D → Option D
  | .int b => g b
  | _ => none
theorem onI_map (g : Int → Option D) (l : List Int) : (l.map D.int).filterMap (onI g) = l.filterMap g := by
  rw [List.filterMap_map]; rfl
theorem fm_some {α β : Type} (g : α → β) (l : List α) : l.filterMap (fun x => some (g x)) = l.map g := by
  induction l with
  | nil => rfl
  | cons x l ih => simp [ih]
/-- keys unlike: the pairs as they come -/
theorem foldl_putD {κ : Type} [DecidableEq κ] : ∀ (l acc : List (κ × D)), ((acc ++ l).map (·.1)).Nodup → l.foldl (fun acc kv => putD acc kv.1 kv.2) acc = acc ++ l
  | [], acc, _ => by simp
  | kv :: l, acc, h => by
    have e : putD acc kv.1 kv.2 = acc ++ [kv] := by
      unfold putD
      rw [if_neg]
      intro c
      obtain ⟨x, hx, hk⟩ := List.any_eq_true.mp c
      rw [List.map_append, List.nodup_append] at h
      exact h.2.2 x.1 (List.mem_map.mpr ⟨x, hx, rfl⟩) kv.1 (by simp) (of_decide_eq_true hk)
    rw [List.foldl_cons, e, foldl_putD l (acc ++ [kv]) (by simpa using h)]
    simp
end L2.DL

namespace L2.DL
open PySem PySem.Spec PyProof.Rows

/-! ### sum, ord -/
section
variable {X : Cx}
def oSum : MC
  | [.ref a], st, Q => ∃ ns : List Int, rdL (st a) = some (ns.map D.int) ∧ Q (.int ns.sum) st
  | _, _, _ => False
theorem dc_sum (hc : X.calm = true) : DC X (.builtin "sum") oSum :=
  ⟨callr_mono (cr_sum hc) fun xs H Q ⟨ds, st, Q0, rx, rs, h, k⟩ => by
    unfold oSum at h
    split at h
    · cases rx with
      | cons r t =>
        cases t; cases r
        obtain ⟨ns, e, h⟩ := h
        obtain ⟨vs, g, r⟩ := rs.rdL e
        rw [r.ints] at g
        exact ⟨_, ns, rfl, g, k _ st _ H h .refl (.int _) rs⟩
    · exact h.elim⟩
def oOrd : MC
  | [.str z], st, Q => z.length = 1 ∧ Q (.int (z.cps.getD 0 0 : Nat)) st
  | _, _, _ => False
theorem dc_ord : DC X (.builtin "ord") oOrd :=
  ⟨callr_mono call_ord fun xs H Q ⟨ds, st, Q0, rx, rs, h, k⟩ => by
    unfold oOrd at h
    split at h
    · cases rx with
      | cons r t =>
        cases t; cases r
        exact ⟨_, rfl, h.1, k _ st _ H h.2 .refl (.int _) rs⟩
    · exact h.elim⟩
/-! ### enumerate of a list -/
def enumD (xs : List D) : List D := xs.zipIdx.map fun p => D.tup [.int (p.2 : Nat), p.1]
theorem enumD_len (xs : List D) : (enumD xs).length = xs.length := by simp [enumD]
theorem enumD_get {xs : List D} {i : Nat} {d : D} (h : xs[i]? = some d) : (enumD xs)[i]? = some (.tup [.int (i : Nat), d]) := by
  unfold enumD
  rw [List.getElem?_map, List.getElem?_zipIdx, h]
  simp
theorem src_enum {K : PySem.W.Frag} {H0 : Hp} {a : Addr} {ds : List D} : SrcJ K H0 (enumD ds) (fun st => rdL (st a) = some ds) (Ite K a) where
  stop := fun i H st h e rs o => by
    obtain ⟨vs, g, r⟩ := rs.rdL o
    rw [enumD_len] at h
    exact ⟨vs, g, by rw [← r.length]; exact h⟩
  go := fun i H st h e rs o => by
    obtain ⟨vs, g, r⟩ := rs.rdL o
    rw [enumD_len] at h
    obtain ⟨v, hv, _⟩ := r.get (List.getElem?_eq_getElem h)
    exact ⟨vs, v, g, hv⟩
  yld := fun i H st x H' h e rs o y => by
    obtain ⟨vs, g, r⟩ := rs.rdL o
    rw [enumD_len] at h
    obtain ⟨T, u, rfl, hT, rfl, hx⟩ := y
    obtain ⟨v, hv, rv⟩ := r.get (List.getElem?_eq_getElem h)
    have e1 : v = u := Option.some.inj (hv.symm.trans (hx vs g))
    subst e1
    have ex : Ext H (upd H T (.tup [.int (i : Nat), v])) := .upd_new hT
    refine ⟨_, enumD_get (List.getElem?_eq_getElem h), .tup (.of upd_same) (.cons (.int _) (.cons (rv.mono ex) .nil)), fun b u hb => ?_⟩
    rw [upd_ne (ne_of_none hb hT)]
    exact hb
/-! ### zip of two lists, of two tuples -/
def zipD (xs ys : List D) : List D := (xs.zip ys).map fun p => D.tup [p.1, p.2]
theorem zipD_len (xs ys : List D) : (zipD xs ys).length = min xs.length ys.length := by simp [zipD]
theorem zipD_get {xs ys : List D} {i : Nat} {d e : D} (h : xs[i]? = some d) (k : ys[i]? = some e) : (zipD xs ys)[i]? = some (.tup [d, e]) := by
  unfold zipD
  rw [List.getElem?_map, (List.getElem?_zip_eq_some (z := (d, e))).mpr ⟨h, k⟩]
  rfl
theorem src_zip {K : PySem.W.Frag} {H0 : Hp} {a b : Addr} {ds es : List D} : SrcJ K H0 (zipD ds es) (fun st => rdL (st a) = some ds ∧ rdL (st b) = some es) (Itz K a b) where
  stop := fun i H st h e rs o => by
    obtain ⟨vs, g, r⟩ := rs.rdL o.1
    obtain ⟨ws, g2, r2⟩ := rs.rdL o.2
    rw [zipD_len] at h
    refine ⟨vs, ws, g, g2, ?_⟩
    rw [← r.length, ← r2.length]
    omega
  go := fun i H st h e rs o => by
    obtain ⟨vs, g, r⟩ := rs.rdL o.1
    obtain ⟨ws, g2, r2⟩ := rs.rdL o.2
    rw [zipD_len] at h
    obtain ⟨v, hv, _⟩ := r.get (List.getElem?_eq_getElem (show i < ds.length by omega))
    obtain ⟨w, hw, _⟩ := r2.get (List.getElem?_eq_getElem (show i < es.length by omega))
    exact ⟨vs, ws, v, w, g, g2, hv, hw⟩
  yld := fun i H st x H' h e rs o y => by
    obtain ⟨vs, g, r⟩ := rs.rdL o.1
    obtain ⟨ws, g2, r2⟩ := rs.rdL o.2
    rw [zipD_len] at h
    obtain ⟨T, u, u2, rfl, hT, rfl, hx, hy⟩ := y
    have l1 := List.getElem?_eq_getElem (show i < ds.length by omega)
    have l2 := List.getElem?_eq_getElem (show i < es.length by omega)
    obtain ⟨v, hv, rv⟩ := r.get l1
    obtain ⟨w, hw, rw'⟩ := r2.get l2
    have e1 : v = u := Option.some.inj (hv.symm.trans (hx vs g))
    have e2 : w = u2 := Option.some.inj (hw.symm.trans (hy ws g2))
    subst e1 e2
    have ex : Ext H (upd H T (.tup [v, w])) := .upd_new hT
    refine ⟨_, zipD_get l1 l2, .tup (.of upd_same) (.cons (rv.mono ex) (.cons (rw'.mono ex) .nil)), fun b u hb => ?_⟩
    rw [upd_ne (ne_of_none hb hT)]
    exact hb
theorem src_zipT {K : PySem.W.Frag} {H0 : Hp} {a b : Addr} {ds es : List D} {vs ws : List V} {ok : Sto → Prop} (g0 : SqT K H0 a vs) (r0 : RelDs K H0 ds vs) (g1 : SqT K H0 b ws) (r1 : RelDs K H0 es ws) : SrcJ K H0 (zipD ds es) ok (RZ.ItzT K a b) where
  stop := fun i H st h e rs o => by
    rw [zipD_len] at h
    refine ⟨vs, ws, e.sqT g0, e.sqT g1, ?_⟩
    rw [← r0.length, ← r1.length]
    omega
  go := fun i H st h e rs o => by
    rw [zipD_len] at h
    obtain ⟨v, hv, _⟩ := r0.get (List.getElem?_eq_getElem (show i < ds.length by omega))
    obtain ⟨w, hw, _⟩ := r1.get (List.getElem?_eq_getElem (show i < es.length by omega))
    exact ⟨vs, ws, v, w, e.sqT g0, e.sqT g1, hv, hw⟩
  yld := fun i H st x H' h e rs o y => by
    rw [zipD_len] at h
    obtain ⟨T, u, u2, rfl, hT, rfl, hx, hy⟩ := y
    have l1 := List.getElem?_eq_getElem (show i < ds.length by omega)
    have l2 := List.getElem?_eq_getElem (show i < es.length by omega)
    obtain ⟨v, hv, rv⟩ := (r0.mono e).get l1
    obtain ⟨w, hw, rw'⟩ := (r1.mono e).get l2
    have e1 : v = u := Option.some.inj (hv.symm.trans (hx vs (e.sqT g0)))
    have e2 : w = u2 := Option.some.inj (hw.symm.trans (hy ws (e.sqT g1)))
    subst e1 e2
    have ex : Ext H (upd H T (.tup [v, w])) := .upd_new hT
    refine ⟨_, zipD_get l1 l2, .tup (.of upd_same) (.cons (rv.mono ex) (.cons (rw'.mono ex) .nil)), fun b u hb => ?_⟩
    rw [upd_ne (ne_of_none hb hT)]
    exact hb
def zpO : D → D → Sto → (List D → (Sto → Prop) → Sto → Prop) → Prop
  | .ref a, .ref b, st, Q => ∃ xs ys, rdL (st a) = some xs ∧ rdL (st b) = some ys ∧ Q (zipD xs ys) (fun st => rdL (st a) = some xs ∧ rdL (st b) = some ys) st
  | .tup xs, .tup ys, st, Q => Q (zipD xs ys) (fun _ => True) st
  | _, _, _, _ => False
def wZip (ma mb : ME) : MI := fun env st Q => ma env st fun x st1 => mb env st1 fun y st2 => zpO x y st2 Q
theorem di_zip {e e2 : Expr} {m m2 : ME} {p pos tpos : Pos} {elts : List Expr} {kk : Nat} (hg : Gl X "zip") (hm : X.mg "zip" = none) (he : DE X e m) (he2 : DE X e2 m2)
    (hs : starEach [e, e2] X.env = (false, eval e X.env) :: starEach [e2] X.env := by rfl) (hs2 : starEach [e2] X.env = (false, eval e2 X.env) :: starEach [] X.env := by rfl) (hpl : (backTo pos (starEach [e2] X.env)).any (·.1) = false := by rfl) :
    DI X (.Tuple elts kk tpos) (.Call (.Name "zip" p) [e, e2] [] pos) (wZip m m2) :=
  ⟨pi_mono (RZ.pi_zipA hg hm (pa_cons he.pe (pa_cons he2.pe pa_nil hs2) hs) hs hpl) fun σ H R ⟨env, st, Q0, re, rs, h, k⟩ =>
    lift_args2 (P := fun x y st => zpO x y st Q0) re rs h fun x y st1 x' y' H1 q ex rx ry rs1 => by
      cases x <;> cases y <;> try exact q.elim
      · cases rx; cases ry
        obtain ⟨xs, ys, h1, h2, q⟩ := q
        obtain ⟨vs, g, _⟩ := rs1.rdL h1
        obtain ⟨ws, g2, _⟩ := rs1.rdL h2
        exact ⟨_, _, vs, ws, rfl, .inl ⟨g, g2, k _ _ st1 _ H1 q ex rs1 src_zip⟩⟩
      · obtain ⟨a, vs, rfl, g, r⟩ := rx.tup_of
        obtain ⟨b, ws, rfl, g2, r2⟩ := ry.tup_of
        exact ⟨a, b, vs, ws, rfl, .inr ⟨g, g2, k _ _ st1 _ H1 q ex rs1 (src_zipT g r g2 r2)⟩⟩⟩
/-! ### dicts: {}, get, setdefault -/
def mDict0 : ME := fun _ st Q => ∀ p, Nf st p → Q (.ref p) (put st p (.dic []))
theorem de_dict0 {pos : Pos} : DE X (.Dict [] [] pos) mDict0 :=
  ⟨pe_mono pe_dnewK fun σ H Q ⟨env, st, Q0, re, rs, h, k⟩ => fun p hp => by
    have ex : Ext H (upd H p (.dK [])) := .upd_new hp
    exact k _ _ _ _ (h p (rs.fresh hp)) ex (.ref p) (rs.put (o := .dic []) ex ⟨[], upd_same, .nil⟩)⟩
def mGet1 (mo mi : ME) : ME := fun env st Q => mo env st fun x st1 => ∃ a kvs, x = .ref a ∧ rdD (st1 a) = some kvs ∧ mi env st1 fun y st2 => ∃ kvs2 k, rdD (st2 a) = some kvs2 ∧ keyD y = some k ∧ Q ((valD kvs2 k).getD .non) st2
def mGet2 (mo mi md : ME) : ME := fun env st Q => mo env st fun x st1 => ∃ a kvs, x = .ref a ∧ rdD (st1 a) = some kvs ∧ mi env st1 fun y st2 => md env st2 fun z st3 => ∃ kvs2 k, rdD (st3 a) = some kvs2 ∧ keyD y = some k ∧ Q ((valD kvs2 k).getD z) st3
def mSetd (mo mi md : ME) : ME := fun env st Q => mo env st fun x st1 => ∃ a kvs, x = .ref a ∧ rdD (st1 a) = some kvs ∧ mi env st1 fun y st2 => md env st2 fun z st3 => ∃ kvs2 k, st3 a = some (.dic kvs2) ∧ keyD y = some k ∧ kvs2.length < sizeLine ∧
  (∀ v, valD kvs2 k = some v → Q v st3) ∧ (valD kvs2 k = none → Q z (put st3 a (.dic (putD kvs2 k z))))
theorem RelX.getD {K : PySem.W.Frag} {H : Hp} {o : Option D} {o' : Option V} {d : D} {v : V} (r : RelX K H o o') (s : o.isSome = o'.isSome) (rd : RelD K H d v) : RelD K H (o.getD d) (o'.getD v) := by
  cases o with
  | none =>
    cases o' with
    | none => exact rd
    | some w => cases s
  | some e =>
    cases o' with
    | none => cases s
    | some w => exact r
theorem de_get1 (hu : X.A.units + 1 < cLine) {o e : Expr} {mo mi : ME} {apos cpos : Pos} (ho : DE X o mo) (he : DE X e mi) (m : L2.M1 X o "get" apos e cpos) : DE X (.Call (.Attribute o "get" apos) [e] [] cpos) (mGet1 mo mi) :=
  ⟨pe_mono (pe_dget1 hu ho.pe he.pe m) fun σ H Q ⟨env, st, Q0, re, rs, h, k⟩ => by
    refine lift_in re rs h fun x st1 x' H1 ⟨a, kvs, e1, e2, q1⟩ ex rx re1 rs1 => ?_
    subst e1
    cases rx
    obtain ⟨vs, g, r⟩ := rs1.rdD e2
    refine ⟨a, rfl, .inl ⟨vs, g⟩, ?_⟩
    refine lift_in re1 rs1 q1 fun y st2 y' H2 ⟨kvs2, kk, e3, ek, q2⟩ ex2 ry re2 rs2 => ?_
    obtain ⟨ws, g2, r2⟩ := rs2.rdD e3
    rw [key_rel ry ek]
    obtain ⟨rx, rs'⟩ := r2.valD kk
    exact ⟨_, .inl ⟨ws, kk, g2, rfl, rfl⟩, k _ st2 _ H2 q2 (ex.trans ex2) (rx.getD rs' .non) rs2⟩⟩
theorem de_get2 (hu : X.A.units + 1 < cLine) {o e f : Expr} {mo mi md : ME} {apos cpos : Pos} (ho : DE X o mo) (he : DE X e mi) (hf : DE X f md) (m : L2.M2 X o "get" apos e f cpos) : DE X (.Call (.Attribute o "get" apos) [e, f] [] cpos) (mGet2 mo mi md) :=
  ⟨pe_mono (pe_dget2 hu ho.pe he.pe hf.pe m) fun σ H Q ⟨env, st, Q0, re, rs, h, k⟩ => by
    refine lift_in re rs h fun x st1 x' H1 ⟨a, kvs, e1, e2, q1⟩ ex rx re1 rs1 => ?_
    subst e1
    cases rx
    obtain ⟨vs, g, r⟩ := rs1.rdD e2
    refine ⟨a, rfl, .inl ⟨vs, g⟩, ?_⟩
    refine lift_in re1 rs1 q1 fun y st2 y' H2 q2 ex2 ry re2 rs2 => ?_
    refine lift_in re2 rs2 q2 fun z st3 z' H3 ⟨kvs2, kk, e3, ek, q3⟩ ex3 rz re3 rs3 => ?_
    obtain ⟨ws, g2, r2⟩ := rs3.rdD e3
    rw [key_rel (ry.mono ex3) ek]
    obtain ⟨rx, rs'⟩ := r2.valD kk
    exact ⟨_, .inl ⟨ws, kk, g2, rfl, rfl⟩, k _ st3 _ H3 q3 (ex.trans (ex2.trans ex3)) (rx.getD rs' rz) rs3⟩⟩
theorem de_setd {o e f : Expr} {mo mi md : ME} {apos cpos : Pos} (ho : DE X o mo) (he : DE X e mi) (hf : DE X f md) (m : L2.M2 X o "setdefault" apos e f cpos) : DE X (.Call (.Attribute o "setdefault" apos) [e, f] [] cpos) (mSetd mo mi md) :=
  ⟨pe_mono (pe_dsetd ho.pe he.pe hf.pe m) fun σ H Q ⟨env, st, Q0, re, rs, h, k⟩ => by
    refine lift_in re rs h fun x st1 x' H1 ⟨a, kvs, e1, e2, q1⟩ ex rx re1 rs1 => ?_
    subst e1
    cases rx
    obtain ⟨vs, g, r⟩ := rs1.rdD e2
    refine ⟨a, rfl, .inl ⟨vs, g⟩, ?_⟩
    refine lift_in re1 rs1 q1 fun y st2 y' H2 q2 ex2 ry re2 rs2 => ?_
    refine lift_in re2 rs2 q2 fun z st3 z' H3 ⟨kvs2, kk, e3, ek, hl, q3, q4⟩ ex3 rz re3 rs3 => ?_
    obtain ⟨ws, g2, r2⟩ := rs3 _ _ e3
    have ey := key_rel (ry.mono ex3) ek
    obtain ⟨rx, rs'⟩ := r2.valD kk
    have exu : ∀ u, Ext H3 (upd H3 a u) := fun u => .upd_mut (by rw [g2]; trivial)
    refine ⟨ws, kk, g2, ey, by rw [r2.length]; exact hl, fun v hv => ?_, fun hv => ?_⟩
    · rw [hv] at rx rs'
      cases hd : valD kvs2 kk with
      | none => rw [hd] at rs'; cases rs'
      | some d =>
        rw [hd] at rx
        exact k _ st3 _ H3 (q3 d hd) (ex.trans (ex2.trans ex3)) rx rs3
    · rw [hv] at rs'
      have hd : valD kvs2 kk = none := by
        cases hd : valD kvs2 kk with
        | none => rfl
        | some d => rw [hd] at rs'; cases rs'
      exact k _ _ _ _ (q4 hd) ((ex.trans (ex2.trans ex3)).trans (exu _)) (rz.mono (exu _)) (rs3.put (o := .dic (putD kvs2 kk z)) (exu _) ⟨_, upd_same, (r2.put kk rz).mono (exu _)⟩)⟩
/-- xs.index(y), y there -/
def oIndex : MM
  | .ref a, [y], st, Q => ∃ xs j z, rdL (st a) = some xs ∧ flatD y = true ∧ xs.all flatD = true ∧ xs[j]? = some z ∧ eqF z y = true ∧ (∀ (m : Nat) (z' : D), m < j → xs[m]? = some z' → eqF z' y = false) ∧ Q (.int (j : Nat)) st
  | _, _, _, _ => False
theorem dm_index : DM X "list.index" oIndex :=
  ⟨mtr_mono mt_index fun x xs H Q ⟨dx, ds, st, Q0, rx, rxs, rs, h, k⟩ => by
    unfold oIndex at h
    split at h
    · cases rx
      cases rxs with
      | cons ry t =>
        cases t
        obtain ⟨ys, j, z, e, f1, f2, hj, e1, e2, q⟩ := h
        obtain ⟨vs, g, r⟩ := rs.rdL e
        obtain ⟨v, hv, rv⟩ := r.get hj
        have fz : ∀ m d, ys[m]? = some d → flatD d = true := fun m d hd => List.all_eq_true.mp f2 d (List.mem_of_getElem? hd)
        refine ⟨_, vs, _, j, v, rfl, rfl, g, flat_rel ry f1, flats_rel r f2, hv, by rw [eqF_rel rv ry (fz _ _ hj) f1]; exact e1, fun m w hm hw => ?_, k _ st _ H q .refl (.int _) rs⟩
        obtain ⟨d, hd, rd⟩ := r.getV hw
        rw [eqF_rel rd ry (fz _ _ hd) f1]
        exact e2 m d hm hd
    · exact h.elim⟩
end
end L2.DL

/-! enumerate of a tuple -/
namespace EnT
open PySem PySem.Spec PyProof.Rows L2
open Sem (wp)
open AutoSeq1 (wpAny_loadPart')
theorem new1 {v : Value} {o : Obj} {H : Heap → Prop} (B : Begins v o H) :
    Meets (Builtin.«enumerate.__new__» ⟨[.type "enumerate", v], []⟩) (fun _ R s => H s.heap ∧
      R (.ok (.ret (.ref (s.heap.push o).objs.size))) { s with heap := (s.heap.push o).push { cls := .type "enumerate", data := .fields #[.none, .bool false, .ref s.heap.objs.size, rawInt 0, .none, .none] } }) :=
  .of_wp fun prog w A R s h => by
    obtain ⟨hp, g, d, tk, os⟩ := s
    obtain ⟨h1, h⟩ := h
    have hsub := sub_enumerate
    have q1 : ∀ {A' : Around} {E : Value → Shared → Prop} {Q : Value → Shared → Prop}, Q (.ref hp.objs.size) ⟨hp.push o, g, d, tk, os⟩ → wpAny (model prog w) A' (pyIter v) Q E ⟨hp, g, d, tk, os⟩ :=
      fun q => B.iter prog w _ _ ⟨hp, g, d, tk, os⟩ _ h1 q
    wp_walk using q1
    refine wpAny_stack_any fun st => wpAny_pure ?_
    split
    · rename_i c _ _ _ _ _
      cases (c == Value.type "enumerate") <;> (wp_walk using q1; exact ⟨_, rfl, h⟩)
    · wp_walk using q1
      exact ⟨_, rfl, h⟩
section
variable {prog : Program} {w : World} {A : Around} {E : Value → Shared → Prop} {s : Shared}
theorem begins1 {v : Value} {o : Obj} {H : Heap → Prop} {Q : Value → Shared → Prop} (B : Begins v o H) (h1 : H s.heap)
    (h : ∀ h', IsEnum h' (s.heap.objs.size + 1) s.heap.objs.size 0 .none → h'.get? s.heap.objs.size = some o → h'.objs.size = s.heap.objs.size + 2 →
      (∀ b ob, s.heap.get? b = some ob → h'.get? b = some ob) → Q (.ref (s.heap.objs.size + 1)) { s with heap := h' }) :
    wpAny (model prog w) A (call (.type "enumerate") [v]) Q E s := by
  refine callType_new F.called_enumerate (by decide) (F.typeCall_enumerate_1 _) (F.newCall_enumerate_1 _) (fun obj => F.args_object_init_2 obj _) F.entry_enumerate_new (new1 B) ⟨h1, ?_⟩
  have hz : (s.heap.push o).objs.size = s.heap.objs.size + 1 := Heap.size_push ..
  have he := Heap.get?_push_size (s.heap.push o) (o := { cls := .type "enumerate", data := .fields #[.none, .bool false, .ref s.heap.objs.size, rawInt 0, .none, .none] }) rfl
  show _ ∧ _
  rw [hz] at he ⊢
  exact ⟨⟨_, he, rfl⟩, h _ he (Heap.get?_push_of_some _ (Heap.get?_push_size _ B.free)) (by rw [Heap.size_push, hz]) fun b ob x => Heap.get?_push_of_some _ (Heap.get?_push_of_some _ x)⟩
end
section
variable {prog : Program} {w : World} {A : Around} {E : Value → Shared → Prop} {s : Shared}
theorem end1 {e it t : Addr} {items : Array Value} {i : Nat} {k : Int} {old : Value} {Q : Option Value → Shared → Prop} (hh : A.handled = none) (he : IsEnum s.heap e it k old) (hit : s.heap.IsTupleIter it t i) (ht : s.heap.IsTuple t items) (hx : items[i]? = none)
    (hQ : ∀ h', Heap.ExtBut it s.heap h' → Q none { s with heap := h' }) : wpAny (model prog w) A (pyNext (.ref e)) Q E s := by
  have hT : s.TypeIs (.ref e) "enumerate" := ⟨_, he, rfl⟩
  unfold pyNext
  refine wpAny_bind (wpAny_attempt (wpAny_callSpecial?_slot (name := Str.ofString "__next__") hT F.slot_enumerate_next
    (wpAny_call_entry F.slot_enumerate_next hT F.entry_enumerate_next ?_ (F.args_enumerate_next_1 _))))
  show wpAny _ _ (field (.ref e) 2 >>= _) _ _ _
  refine wpAny_bind (wpAny_field he rfl (x := .ref it) rfl ?_)
  refine wpAny_bind (wpAny_nextOf_tuple_end hh hit ht hx fun h' x q hc => ?_)
  obtain ⟨o, ho, hc⟩ := hc
  refine wpAny_bind (wpAny_isInstance (T := "StopIteration") (b := true) ⟨o, ho, hc⟩ isSubtype_stop ?_)
  exact wpAny_pure (hQ _ q)
end
/-- the tuple at a, each item in a new pair -/
def Ie (K : PySem.W.Frag) (a : Addr) : It :=
  ⟨fun i H => ∃ (xs : List V) (x : V), SqT K H a xs ∧ xs[i]? = some x, fun i H v H' => ∃ T x, v = .ref T ∧ H T = none ∧ H' = upd H T (.tup [.int (i : Nat), x]) ∧ ∀ xs, SqT K H a xs → xs[i]? = some x, fun i H => ∃ xs : List V, SqT K H a xs ∧ xs.length ≤ i⟩
theorem turn {P : Program} {w : World} {K : PySem.W.Frag} {elts : List Expr} {kk : Nat} {tpos : Pos} (a e it : Addr) :
    Turn P w K (.Tuple elts kk tpos) (Ie K a) [e, it] e (fun i h => (∃ old, IsEnum h e it ((i : Nat) : Int) old) ∧ h.IsTupleIter it a i ∧ e ≠ it) where
  mem := by simp
  obj := fun i h st b hb => by
    obtain ⟨⟨old, he⟩, ⟨o, ho, hc, hd⟩, _⟩ := st
    have e' : b = e ∨ b = it := by simpa using hb
    rcases e' with z | z
    · subst z; exact ⟨_, he, fun v q => nomatch q⟩
    · subst z; exact ⟨o, ho, fun v q => by rw [hd] at q; cases q⟩
  keep := fun i h h' st k => let ⟨⟨old, he⟩, hi, hne⟩ := st; ⟨⟨old, k e (by simp) _ he⟩, hi.at fun o q => k it (by simp) o q, hne⟩
  item := by
    intro X hP hw hK hc i pins s σ H E I hf st hg
    subst hP hw hK
    obtain ⟨⟨old, he⟩, hit, hne⟩ := st
    obtain ⟨xs, x, hq, hx⟩ := hg
    obtain ⟨its, rv, p, hz⟩ := I.tuple hq
    obtain ⟨u, hu, ru⟩ := rv.get hx
    have hel : e < s.heap.objs.size := Heap.lt_size he
    have hil : it < s.heap.objs.size := by obtain ⟨_, q, _⟩ := hit; exact Heap.lt_size q
    have hp : s.heap.IsTuple a its.toArray := p
    have ai : a ≠ it := by
      rintro rfl
      obtain ⟨o1, q1, c1, _⟩ := hit
      obtain ⟨o2, q2, c2, _⟩ := hp
      rw [q1] at q2
      cases q2
      rw [c1] at c2
      exact absurd (Value.type.inj c2) (by decide)
    have ae : e ≠ a := by
      rintro rfl
      obtain ⟨o2, q2, c2, _⟩ := hp
      have q1 : s.heap.get? e = _ := he
      rw [q1] at q2
      cases q2
      exact absurd (Value.type.inj c2) (by decide)
    have hlt : i < its.toArray.size := by
      have := (List.getElem?_eq_some_iff.mp hu).1
      simpa using this
    refine wpAny_pyNext_enum_itemD (Draws.tuple (A := X.A.in1) (I.ok.hd hc) it a ai its.toArray) he ⟨hit, hp⟩ hlt hne (by simp [hne, ae]) fun u' h' tk hu' ho st' hT hsz hk => ?_
    obtain ⟨hit', _⟩ := st'
    have eu : u' = u := by
      have h1 : its.toArray[i]? = some u := by simpa using hu
      exact Option.some.inj (hu'.symm.trans h1)
    subst eu
    refine ⟨_, rfl, wpAny_letOwnedTupleGo_enum (s := { s with heap := h', toks := tk + 1 }) ho fun h'' he' sb => ?_⟩
    have hT2 := (sb.2 _ (Nat.ne_of_gt hel)).trans hT
    have new : ObjOk X.prog X.w (upd H s.heap.objs.size (.tup [.int (i : Nat), x])) h'' s.heap.objs.size (.tup [.int (i : Nat), x]) :=
      ⟨by show 2 ≤ sizeLine; decide, [.int i tk, u'], .cons ⟨_, rfl⟩ (.cons ru .nil), ⟨_, hT2, rfl, _, rfl⟩⟩
    have I1 : Inv X pins σ (upd H s.heap.objs.size (.tup [.int (i : Nat), x])) { s with heap := h'', toks := tk + 1 } :=
      I.turnedNew (ch := [e, it]) (fun b ob hb q => (sb.2 b (fun z => hb (by simp [z]))).trans (hk b ob (fun z => hb (by simp [z])) (fun z => hb (by simp [z])) q)) hf (Nat.le_refl _) new
    refine ⟨.ref s.heap.objs.size, _, I1, rfl, ⟨_, x, rfl, I.hok.fresh (Nat.le_refl _), rfl, fun ys hy => by rw [I.tuple_inj hy hq]; exact hx⟩, ⟨⟨u', ?_⟩, hit'.at fun o q => (sb.2 it (Ne.symm hne)).trans q, hne⟩, fun b hb => ?_⟩
    · have e1 : ((i + 1 : Nat) : Int) = (i : Int) + 1 := by omega
      rw [e1]
      exact he'
    · have hb' : b < s.heap.objs.size := by
        have e' : b = e ∨ b = it := by simpa using hb
        rcases e' with z | z
        · subst z; exact hel
        · subst z; exact hil
      rw [upd_ne (Nat.ne_of_lt hb')]
      exact (hf b hb).1
  done := by
    intro X hP hw hK hc i pins s σ H E I hf st hg
    subst hP hw hK
    obtain ⟨⟨old, he⟩, hit, hne⟩ := st
    obtain ⟨xs, hq, hx⟩ := hg
    obtain ⟨its, rv, p, hz⟩ := I.tuple hq
    have hp : s.heap.IsTuple a its.toArray := p
    obtain ⟨f0, f1, f2, f3, f4, f5⟩ := hf it (by simp)
    have hl := rv.length
    exact end1 (I.ok.hd hc) he hit hp (by simp; omega) fun h' eb => ⟨rfl, I.turned (t' := s.toks) (fun b o hb q => eb b o hb q) f0 f1 f3 f4 f5⟩
  self := fun A i s Q E st h => let ⟨⟨_, he⟩, _⟩ := st; wpAny_pyIter_enum he h
theorem pi_tup {X : Cx} {e : Expr} {te : TE} {p pos tpos : Pos} {elts : List Expr} {kk : Nat} (hg : Gl X "enumerate") (hm : X.mg "enumerate" = none) (he : PE X e te) (hs : starEach [e] X.env = [(false, eval e X.env)] := by rfl) :
    PI X (.Tuple elts kk tpos) (.Call (.Name "enumerate" p) [e] [] pos) (fun σ H R => te σ H fun x H1 => (∃ a xs, x = .ref a ∧ SqL X.K H1 a xs ∧ R (Ite X.K a) H1) ∨ (∃ a xs, x = .ref a ∧ SqT X.K H1 a xs ∧ R (Ie X.K a) H1)) := by
  refine ⟨fun pins s σ H R I h => ?_⟩
  refine Call_ (ld_blt I hg hm boot_enumerate (PyProof.Rows.callWith_type1 (thn ((pa_cons he pa_nil hs).run pos pins s σ H (fun vs H1 => match vs with
    | [x] => (∃ a xs, x = .ref a ∧ SqL X.K H1 a xs ∧ R (Ite X.K a) H1) ∨ (∃ a xs, x = .ref a ∧ SqT X.K H1 a xs ∧ R (Ie X.K a) H1)
    | _ => False) I h) fun us s1 ⟨vs, H1, I1, r1, q1⟩ => ?_) hs rfl))
  · cases r1 with
    | nil => exact q1.elim
    | cons r rr =>
      cases rr with
      | cons _ _ => exact q1.elim
      | nil =>
      rcases q1 with ⟨a, xs, rfl, hq, q⟩ | ⟨a, xs, rfl, hq, q⟩
      · cases r
        obtain ⟨its, rv, p', hz⟩ := I1.list hq
        refine begins1 (begins_list a its.toArray) p'.isList fun h' he hit hsz hk => wpAny_pyIter_enum he ?_
        have I2 : Inv X pins σ H1 { s1 with heap := h' } := I1.kept (t' := s1.toks) hk
        refine ⟨s1.heap.objs.size + 1, [s1.heap.objs.size + 1, s1.heap.objs.size], _, _, H1, rfl, I2, turn_enum a (s1.heap.objs.size + 1) s1.heap.objs.size, ⟨⟨.none, he⟩, ⟨_, hit, rfl, rfl⟩, Nat.succ_ne_self _⟩, fun b hb => ?_, q⟩
        have e' : b = s1.heap.objs.size + 1 ∨ b = s1.heap.objs.size := by simpa using hb
        have hle : s1.heap.objs.size ≤ b := by rcases e' with z | z <;> rw [z] <;> omega
        exact I1.fpOk hle (I1.hok.fresh hle)
      · cases r
        obtain ⟨its, rv, p', hz⟩ := I1.tuple hq
        have hp : s1.heap.IsTuple a its.toArray := p'
        refine begins1 (begins_tuple a its.toArray) hp fun h' he hit hsz hk => wpAny_pyIter_enum he ?_
        have I2 : Inv X pins σ H1 { s1 with heap := h' } := I1.kept (t' := s1.toks) hk
        refine ⟨s1.heap.objs.size + 1, [s1.heap.objs.size + 1, s1.heap.objs.size], _, _, H1, rfl, I2, turn a (s1.heap.objs.size + 1) s1.heap.objs.size, ⟨⟨.none, he⟩, ⟨_, hit, rfl, rfl⟩, Nat.succ_ne_self _⟩, fun b hb => ?_, q⟩
        have e' : b = s1.heap.objs.size + 1 ∨ b = s1.heap.objs.size := by simpa using hb
        have hle : s1.heap.objs.size ≤ b := by rcases e' with z | z <;> rw [z] <;> omega
        exact I1.fpOk hle (I1.hok.fresh hle)
end EnT
namespace L2.DL
open PySem PySem.Spec PyProof.Rows
theorem src_enumT {K : PySem.W.Frag} {H0 : Hp} {a : Addr} {ds : List D} {vs : List V} {ok : Sto → Prop} (g0 : SqT K H0 a vs) (r0 : RelDs K H0 ds vs) : SrcJ K H0 (enumD ds) ok (EnT.Ie K a) where
  stop := fun i H st h e rs o => by
    rw [enumD_len] at h
    exact ⟨vs, e.sqT g0, by rw [← r0.length]; exact h⟩
  go := fun i H st h e rs o => by
    rw [enumD_len] at h
    obtain ⟨v, hv, _⟩ := r0.get (List.getElem?_eq_getElem h)
    exact ⟨vs, v, e.sqT g0, hv⟩
  yld := fun i H st x H' h e rs o y => by
    rw [enumD_len] at h
    obtain ⟨T, u, rfl, hT, rfl, hx⟩ := y
    obtain ⟨v, hv, rv⟩ := (r0.mono e).get (List.getElem?_eq_getElem h)
    have e1 : v = u := Option.some.inj (hv.symm.trans (hx vs (e.sqT g0)))
    subst e1
    have ex : Ext H (upd H T (.tup [.int (i : Nat), v])) := .upd_new hT
    refine ⟨_, enumD_get (List.getElem?_eq_getElem h), .tup (.of upd_same) (.cons (.int _) (.cons (rv.mono ex) .nil)), fun b u hb => ?_⟩
    rw [upd_ne (ne_of_none hb hT)]
    exact hb
def enO : D → Sto → (List D → (Sto → Prop) → Sto → Prop) → Prop
  | .ref a, st, Q => ∃ xs, rdL (st a) = some xs ∧ Q (enumD xs) (fun st => rdL (st a) = some xs) st
  | .tup xs, st, Q => Q (enumD xs) (fun _ => True) st
  | _, _, _ => False
def wEnum (m : ME) : MI := fun env st Q => m env st fun x st1 => enO x st1 Q
theorem di_enum {X : Cx} {e : Expr} {m : ME} {p pos tpos : Pos} {elts : List Expr} {kk : Nat} (hg : Gl X "enumerate") (hm : X.mg "enumerate" = none) (he : DE X e m) (hs : starEach [e] X.env = [(false, eval e X.env)] := by rfl) :
    DI X (.Tuple elts kk tpos) (.Call (.Name "enumerate" p) [e] [] pos) (wEnum m) :=
  ⟨pi_mono (EnT.pi_tup hg hm he.pe hs) fun σ H R ⟨env, st, Q0, re, rs, h, k⟩ =>
    lift_in re rs h fun x st1 x' H1 q ex rx re1 rs1 => by
      cases x <;> try exact q.elim
      · cases rx
        obtain ⟨xs, e2, q⟩ := q
        obtain ⟨vs, g, r⟩ := rs1.rdL e2
        exact .inl ⟨_, vs, rfl, g, k _ _ st1 _ H1 q ex rs1 src_enum⟩
      · obtain ⟨a, vs, rfl, g, r⟩ := rx.tup_of
        exact .inr ⟨a, vs, rfl, g, k _ _ st1 _ H1 q ex rs1 (src_enumT g r)⟩⟩
theorem wEnum_a {m : ME} {env : Env} {st : Sto} {Q : List D → (Sto → Prop) → Sto → Prop} : wEnum m env st Q = m env st fun x st1 => enO x st1 Q := rfl
theorem enO_tup {xs : List D} {st : Sto} {Q : List D → (Sto → Prop) → Sto → Prop} : enO (.tup xs) st Q = Q (enumD xs) (fun _ => True) st := rfl
theorem enO_ref {a : Addr} {st : Sto} {Q : List D → (Sto → Prop) → Sto → Prop} : enO (.ref a) st Q = rdO (st a) fun xs => Q (enumD xs) (fun st => rdL (st a) = some xs) st := rdO_eq
/-- ranges, by their bounds -/
theorem wRng2_b {ma mb : ME} {env : Env} {st : Sto} {Q : List D → (Sto → Prop) → Sto → Prop} : wRng2 ma mb env st Q = ma env st fun x st1 => mb env st1 fun y st2 => iAt x st2 fun i st3 => iAt y st3 fun j st4 => (-(2 ^ 62) ≤ i ∧ i < 2 ^ 62 ∧ -(2 ^ 62) ≤ j ∧ j < 2 ^ 62) ∧ Q (rangeD i (j - i).toNat) (fun _ => True) st4 := by
  have e : (fun x st1 => mb env st1 fun y st2 => ∃ i j, x = D.int i ∧ y = D.int j ∧ (-(2 ^ 62) ≤ i ∧ i < 2 ^ 62 ∧ -(2 ^ 62) ≤ j ∧ j < 2 ^ 62) ∧ Q (rangeD i (j - i).toNat) (fun _ => True) st2) = fun x st1 => mb env st1 fun y st2 => iAt x st2 fun i st3 => iAt y st3 fun j st4 => (-(2 ^ 62) ≤ i ∧ i < 2 ^ 62 ∧ -(2 ^ 62) ≤ j ∧ j < 2 ^ 62) ∧ Q (rangeD i (j - i).toNat) (fun _ => True) st4 := by
    funext x st1
    congr 1
    funext y st2
    cases x <;> cases y <;> simp [iAt]
  unfold wRng2
  rw [e]
theorem wRng3_b {ma mb mc : ME} {env : Env} {st : Sto} {Q : List D → (Sto → Prop) → Sto → Prop} : wRng3 ma mb mc env st Q = ma env st fun x st1 => mb env st1 fun y st2 => mc env st2 fun z st3 => iAt x st3 fun i st4 => iAt y st4 fun j st5 => iAt z st5 fun c st6 => ∃ n, RgC i j c n ∧ Q (stepD i c n) (fun _ => True) st6 := by
  have e : (fun x st1 => mb env st1 fun y st2 => mc env st2 fun z st3 => ∃ i j c n, x = D.int i ∧ y = D.int j ∧ z = D.int c ∧ RgC i j c n ∧ Q (stepD i c n) (fun _ => True) st3) = fun x st1 => mb env st1 fun y st2 => mc env st2 fun z st3 => iAt x st3 fun i st4 => iAt y st4 fun j st5 => iAt z st5 fun c st6 => ∃ n, RgC i j c n ∧ Q (stepD i c n) (fun _ => True) st6 := by
    funext x st1
    congr 1
    funext y st2
    congr 1
    funext z st3
    cases x <;> cases y <;> cases z <;> simp [iAt]
  unfold wRng3
  rw [e]
end L2.DL

/-! sets of texts: made of a list, sorted -/
namespace TxS
open PySem PySem.Spec PyProof.Rows L2
def kOf (e : Int × Value) : Str := match e.2 with
  | .str k _ => k
  | _ => ⟨#[]⟩
def Gd (w : World) (e : Int × Value) : Prop := ∃ k u, e = (hashStr w k, Value.str k u)
/-- the set of texts at a: its members, in some order -/
structure Is (w : World) (h : Heap) (a : Addr) (L : List Str) (o : Obj) (es : Array (Int × Value)) (ep : Nat) (t : SetTable) : Prop where
  ob : h.get? a = some o
  ex : o.ExactSet
  dat : o.data = .set es ep t
  good : ∀ e ∈ es.toList, Gd w e
  keys : (es.toList.map kOf).Perm L
  nd : L.Nodup
  few : es.size < scanBound
  fit : t.fits es.size = true
  ris : Ris t.place.toList
  led : w.params.followText "set-order" = true ∨ t.led = true
def At (w : World) (h : Heap) (a : Addr) (L : List Str) : Prop := ∃ o es ep t, Is w h a L o es ep t
theorem Is.size {w : World} {h : Heap} {a : Addr} {L : List Str} {o : Obj} {es : Array (Int × Value)} {ep : Nat} {t : SetTable} (R : Is w h a L o es ep t) : es.size = L.length := by
  rw [← R.keys.length_eq, List.length_map, Array.length_toList]
theorem At.keep {w : World} {h h' : Heap} {a : Addr} {L : List Str} (R : At w h a L) (k : ∀ o, h.get? a = some o → h'.get? a = some o) : At w h' a L := by
  obtain ⟨o, es, ep, t, r⟩ := R
  exact ⟨o, es, ep, t, { r with ob := k o r.ob }⟩
section
variable {P : Program} {w : World}
theorem isK (k : Str) (u : Tok) : (strKind P w).is k (.str k u) = true := by
  show Value.isStrOf k (.str k u) = true
  simp [Value.isStrOf]
theorem is_iff {e : Int × Value} (g : Gd w e) (k : Str) : (strKind P w).is k e.2 = true ↔ kOf e = k := by
  obtain ⟨k0, u, rfl⟩ := g
  constructor
  · intro h
    exact (strKind P w).inj _ _ _ (isK (P := P) (w := w) k0 u) h
  · intro h
    have h' : k0 = k := h
    rw [← h']
    exact isK _ _
theorem elems {l : List (Int × Value)} (g : ∀ e ∈ l, Gd w e) : ElemsOf (strKind P w) l := fun e he => by
  obtain ⟨k, u, rfl⟩ := g e he
  exact ⟨⟨k, isK k u, rfl⟩, rfl⟩
end
section
variable {P : Program} {w : World} {A : Around} {E : Value → Shared → Prop} {s : Shared} {a : Addr} {L : List Str}
/-- behind the entry: the table may grow -/
theorem tail {f : Bool → Sem Unit} (hf : ∀ (b : Bool) (s₁ : Shared) (Q' : Unit → Shared → Prop), Q' () s₁ → wpAny (model P w) A (f b) Q' E s₁) {o : Obj} {es : Array (Int × Value)} {ep : Nat} {t : SetTable}
    (ho : s.heap.get? a = some o) (hx : o.ExactSet) (hd : o.data = .set es ep t) {fs : Array (Int × Value)} {u : SetTable} (gd : ∀ e ∈ fs.toList, Gd w e) (ks : (fs.toList.map kOf).Perm L) (nd : L.Nodup)
    (few : fs.size < scanBound) (fit : u.fits fs.size = true) (ri : Ris u.place.toList) (ld : w.params.followText "set-order" = true ∨ u.led = true) {dm : Bool} {R : Option Bool → Shared → Prop}
    (fin : ∀ h', Heap.SameBut a s.heap h' → At w h' a L → R (some true) { s with heap := h' }) :
    wpAny (model P w) A (do
        storeSet a fs u
        if (!dm && u.tooFull) = true then do
            f (relayAll u fs (SetTable.grown fs.size)).2.2
            storeSet a (relayAll u fs (SetTable.grown fs.size)).1 (relayAll u fs (SetTable.grown fs.size)).2.1
            pure (some true)
          else pure (some true)) R E s := by
  refine wpAny_bind (wpAny_storeSet_of ho hd ?_ (fits_of_scanBound few))
  have at1 := PpSet.storeB_at (es' := fs) (t' := u) ho hd
  have same := Heap.SameBut.update s.heap a (Obj.putSet fs u)
  split
  · have p := relayAll_perm u fs (SetTable.grown fs.size)
    have p1 := relayAll_fits u fs (SetTable.grown fs.size)
    have p2 := relayAll_ris u fs (SetTable.grown fs.size)
    have p3 := relayAll_led u fs (SetTable.grown fs.size)
    generalize relayAll u fs (SetTable.grown fs.size) = Z at p p1 p2 p3 ⊢
    obtain ⟨gs, v, gave⟩ := Z
    dsimp only at p p1 p2 p3 ⊢
    have sz : gs.size = fs.size := by rw [← Array.length_toList, p.length_eq, Array.length_toList]
    have few2 : gs.size < scanBound := by rw [sz]; exact few
    refine wpAny_bind (hf _ _ _ (wpAny_bind (wpAny_storeSet_of at1 rfl ?_ (fits_of_scanBound few2))))
    have at2 := PpSet.storeB_at (es' := gs) (t' := v) at1 rfl
    exact wpAny_pure (fin _ (same.trans (Heap.SameBut.update _ a _)) ⟨_, gs, _, v, at2, hx, rfl, fun e he => gd e (p.mem_iff.mp he), (p.map kOf).trans ks, nd, few2, p1, p2, ld.imp id fun z => by rw [p3]; exact z⟩)
  · exact wpAny_pure (fin _ same ⟨_, fs, _, u, at1, hx, rfl, gd, ks, nd, few, fit, ri, ld⟩)
/-- one text is added -/
theorem add {k : Str} {u : Tok} {Q : Bool → Shared → Prop} (R : At w s.heap a L) (room : L.length + 1 < scanBound)
    (fin : ∀ h' b, Heap.SameBut a s.heap h' → At w h' a (if k ∈ L then L else k :: L) → Q b { s with heap := h' }) :
    wpAny (model P w) A (setAddHashed a (.str k u) ((strKind P w).hash k)) Q E s := by
  obtain ⟨o, es, ep, t, R⟩ := R
  have el : ElemsOf (strKind P w) es.toList := elems R.good
  have scn : (Value.str k u).scannable = true := rfl
  unfold setAddHashed setAddHashedIn
  refine wpAny_holding (wpAny_bind (wpAny_setState_of R.ob R.dat R.fit ?_))
  dsimp only
  rw [byScan_of scn R.few el]
  simp only [↓reduceIte]
  unfold setAddByScan
  refine wpAny_bind (wpAny_bind (wpAny_rule (wpAny_bind (wpAny_setScan_of (isK (P := P) (w := w) k u) R.ob R.dat R.fit el ?_))))
  cases fi : List.findIdx? (fun e => (strKind P w).is k e.2) es.toList with
  | some j =>
    dsimp only
    obtain ⟨hj, pj, _⟩ := List.findIdx?_eq_some_iff_getElem.mp fi
    have mem : k ∈ L := R.keys.mem_iff.mp (List.mem_map.mpr ⟨es.toList[j], List.getElem_mem hj, (is_iff (R.good _ (List.getElem_mem hj)) k).mp pj⟩)
    have q := fin s.heap false (Heap.SameBut.refl a s.heap) (by rw [if_pos mem]; exact ⟨o, es, ep, t, R⟩)
    exact wpAny_pure (wpAny_pure q)
  | none =>
    dsimp only
    have out : k ∉ es.toList.map kOf := fun z => by
      obtain ⟨e, he, q⟩ := List.mem_map.mp z
      have c := List.findIdx?_eq_none_iff.mp fi e he
      rw [(is_iff (P := P) (R.good e he) k).mpr q] at c
      cases c
    have outL : k ∉ L := fun z => out (R.keys.mem_iff.mpr z)
    have quiet : ∀ (b : Bool) {s₁ : Shared} {Q' : Unit → Shared → Prop}, Q' () s₁ → wpAny (model P w) A (match b with | true => rule "set.scan.the-table-gave-way" | false => pure ()) Q' E s₁ :=
      fun b s₁ Q' q => by
        cases b
        · exact wpAny_pure q
        · exact wpAny_rule q
    have p := layNew_perm t es ((strKind P w).hash k) (.str k u)
    have p1 := layNew_fits t es ((strKind P w).hash k) (.str k u)
    have p2 := layNew_ris t es ((strKind P w).hash k) (.str k u) R.ris
    have p3 := layNew_led t es ((strKind P w).hash k) (.str k u)
    generalize layNew t es ((strKind P w).hash k) (.str k u) = Z at p p1 p2 p3 ⊢
    obtain ⟨fs, t1, dm, gave⟩ := Z
    dsimp only at p p1 p2 p3 ⊢
    rw [Array.toList_push] at p
    have pc : fs.toList.Perm (((strKind P w).hash k, Value.str k u) :: es.toList) := p.trans (List.perm_append_singleton _ _)
    have pk : (fs.toList.map kOf).Perm (k :: L) := (pc.map kOf).trans (R.keys.cons k)
    have gd : ∀ e ∈ fs.toList, Gd w e := fun e he => by
      rcases List.mem_cons.mp (pc.mem_iff.mp he) with z | z
      · exact ⟨k, u, z⟩
      · exact R.good e z
    have nd : (k :: L).Nodup := List.nodup_cons.mpr ⟨outL, R.nd⟩
    have sz : fs.size = L.length + 1 := by rw [← Array.length_toList, pc.length_eq, List.length_cons, Array.length_toList, R.size]
    have few : fs.size < scanBound := by rw [sz]; exact room
    have ld : w.params.followText "set-order" = true ∨ t1.led = true := R.led.imp id fun z => by rw [p3]; exact z
    have done : ∀ h', Heap.SameBut a s.heap h' → At w h' a (k :: L) → Q true { s with heap := h' } := fun h' sb r => fin h' true sb (by rw [if_neg outL]; exact r)
    refine wpAny_bind (quiet _ ?_)
    split
    · refine wpAny_bind ?_
      rw [hashByValue_scannable 8 scn]
      refine wpAny_pure (tail ?_ R.ob R.ex R.dat gd pk nd few ?_ ?_ ?_ ?_)
      · exact fun b s₁ Q' q => quiet b q
      · first | (split <;> first | exact p1 | exact SetTable.fits_plain_off p1) | exact p1
      · first | (split <;> exact p2) | exact p2
      · first | (split <;> exact ld) | exact ld
      · exact fun h' sb r => wpAny_pure (done h' sb r)
    · refine wpAny_bind (wpAny_pure ?_)
      simp only [↓reduceIte]
      refine tail ?_ R.ob R.ex R.dat gd pk nd few p1 p2 ld ?_
      · exact fun b s₁ Q' q => quiet b q
      · exact fun h' sb r => wpAny_pure (done h' sb r)
end

/-! ### made of a list of texts -/
/-- the texts met so far, each once -/
def met : List Str → List Str → List Str
  | L, [] => L
  | L, k :: r => met (if k ∈ L then L else k :: L) r
theorem met_snoc : ∀ (r L : List Str) (k : Str), met L (r ++ [k]) = if k ∈ met L r then met L r else k :: met L r
  | [], _, _ => rfl
  | x :: r, L, k => met_snoc r _ k
theorem met_len : ∀ (r L : List Str), (met L r).length ≤ L.length + r.length
  | [], L => Nat.le_refl _
  | x :: r, L => by
    have := met_len r (if x ∈ L then L else x :: L)
    have h2 : (if x ∈ L then L else x :: L).length ≤ L.length + 1 := by split <;> simp
    rw [met, List.length_cons]
    omega
theorem met_mem : ∀ (r L : List Str) (k : Str), k ∈ met L r ↔ k ∈ L ∨ k ∈ r
  | [], L, k => by simp [met]
  | x :: r, L, k => by
    rw [met, met_mem r, List.mem_cons]
    by_cases h : x ∈ L
    · rw [if_pos h]
      constructor
      · rintro (a | a)
        · exact .inl a
        · exact .inr (.inr a)
      · rintro (a | rfl | a)
        · exact .inl a
        · exact .inl h
        · exact .inr a
    · rw [if_neg h, List.mem_cons]
      constructor
      · rintro ((rfl | a) | a)
        · exact .inr (.inl rfl)
        · exact .inl a
        · exact .inr (.inr a)
      · rintro (a | rfl | a)
        · exact .inl (.inr a)
        · exact .inl (.inl rfl)
        · exact .inr a
theorem met_nd : ∀ (r L : List Str), L.Nodup → (met L r).Nodup
  | [], _, h => h
  | x :: r, L, h => met_nd r _ (by
    by_cases c : x ∈ L
    · rw [if_pos c]; exact h
    · rw [if_neg c]; exact List.nodup_cons.mpr ⟨c, h⟩)
theorem take_snoc' {α : Type} {xs : List α} {i : Nat} {x : α} (h : xs[i]? = some x) : xs.take (i + 1) = xs.take i ++ [x] := by
  rw [List.take_add_one, h]
  rfl
theorem strs_get : ∀ {vs : List Value} {ks : List Str}, StrsAre vs ks → ∀ {i : Nat} {v : Value}, vs[i]? = some v → ∃ k u, ks[i]? = some k ∧ v = Value.str k u := by
  intro vs ks h
  induction h with
  | nil => intro i v e; simp at e
  | cons k u _ ih =>
    intro i v e
    cases i with
    | zero => simp at e; exact ⟨_, _, rfl, e.symm⟩
    | succ i => simpa using ih (by simpa using e)
section
variable {P : Program} {w : World} {A : Around} {E : Value → Shared → Prop} {s : Shared}
theorem fresh {h : Heap} {a : Addr} (ho : h.get? a = some { cls := .type "set", dict := none, data := .set #[] 0 (.fresh 0 0 (!w.params.followText "set-order")) }) : At w h a [] :=
  ⟨_, #[], 0, _, ho, ⟨rfl, rfl, rfl⟩, rfl, (fun e he => by simp at he), .nil, .nil, (by decide), rfl, List.Pairwise.nil, by
    show _ ∨ (!w.params.followText "set-order") = true
    cases w.params.followText "set-order" <;> simp⟩
theorem loop {I : Addr} {fp wr : List Addr} {G : Array GenState → Array GenState → Prop} {n : Nat} {Pv : Nat → Value → Prop} {St : Nat → Shared → Prop} {R : Result → Shared → Prop}
    (W : WalksS P w A.in1 I fp wr G n Pv St) (D : Addr) (nD : D ∉ fp) (ks : List Str) (hn : n = ks.length) (few : ks.length + 1 < scanBound) (val : ∀ i v, Pv i v → ∃ k u, ks[i]? = some k ∧ v = .str k u) :
    ∀ (m i : Nat) (s : Shared), n - i = m → i ≤ n → St i s → At w s.heap D (met [] (ks.take i)) →
      (∀ s', Moved (D :: wr) G s s' → At w s'.heap D (met [] ks) → R (.ok (.ret .none)) s') → codeAny (model P w) A (.builtin "set.update.loop" ⟨[.ref D, .ref I], []⟩) R s := by
  have nw : D ∉ wr := fun h => nD (W.sub _ h)
  have more : ∀ b ∈ wr, b ∈ D :: wr := fun b hb => List.mem_cons_of_mem _ hb
  intro m
  induction m with
  | zero =>
    intro i s e hi st hD fin
    obtain rfl : i = n := by omega
    refine codeAny_builtin F.entry_set_update_loop ?_
    rw [Around.under_plainId F.plain_set_update_loop _]
    show wpAny _ A.in1 (pyNext (.ref I) >>= _) _ _ s
    refine wpAny_bind (W.done s _ _ st fun s' mv => ?_)
    rw [List.take_of_length_le (by omega)] at hD
    exact wpAny_pure (fin s' (mv.mono more) (hD.keep fun o e => mv.heap D o nw e))
  | succ m ih =>
    intro i s e hi st hD fin
    have lt : i < n := by omega
    refine codeAny_builtin F.entry_set_update_loop ?_
    rw [Around.under_plainId F.plain_set_update_loop _]
    show wpAny _ A.in1 (pyNext (.ref I) >>= _) _ _ s
    refine wpAny_bind (W.item i s _ _ lt st fun v s1 pv st1 mv => ?_)
    obtain ⟨k, u, hk, rfl⟩ := val i v pv
    have D1 := hD.keep fun o e => mv.heap D o nw e
    have ln := met_len (ks.take i) []
    rw [List.length_take, List.length_nil] at ln
    show wpAny _ A.in1 (holding [Value.str k u] (setAdd D (.str k u)) >>= _) _ _ s1
    refine wpAny_bind (wpAny_holding ?_)
    unfold setAdd
    refine wpAny_holding (wpAny_bind ((strKind P w).pyHash (isK k u) ?_))
    refine add (s := { s1 with toks := s1.toks + 1 }) D1 (by omega) fun h' b sb D2 => ?_
    rw [← met_snoc, ← take_snoc' hk] at D2
    refine wpAny_pure ⟨plainId_quiet F.plain_set_update_loop _, ih (i + 1) _ (by omega) lt (W.frame _ s1 _ _ st1 (Nat.le_succ _) fun c hc o e => ?_) D2 fun s2 mv2 D3 => ?_⟩
    · rw [sb.2 c (by rintro rfl; exact nD hc)]; exact e
    · refine fin s2 (Moved.trans W.gtrans ((mv.mono more).then_heap (Nat.le_succ _) fun c o hc e => ?_) mv2) D3
      rw [sb.2 c (by rintro rfl; exact hc (List.mem_cons_self ..))]; exact e

/-- a new set's object -/
abbrev z0 (w : World) : Obj := { cls := .type "set", dict := none, data := .set #[] 0 (.fresh 0 0 (!w.params.followText "set-order")) }
theorem make {l : Addr} {vs : List Value} {ks : List Str} {Q : Value → Shared → Prop} (hh : A.handled = none) (hl : s.heap.IsList l vs.toArray) (hs : StrsAre vs ks) (few : ks.length + 1 < scanBound)
    (fin : ∀ (h' : Heap) (tk : Nat), At w h' s.heap.objs.size (met [] ks) → (∀ b o, s.heap.get? b = some o → h'.get? b = some o) → Q (.ref s.heap.objs.size) { s with heap := h', toks := tk }) :
    wpAny (model P w) A (call (.type "set") [.ref l]) Q E s := by
  have len : vs.toArray.size = ks.length := by rw [List.size_toArray]; exact hs.length
  obtain ⟨c, tl, hmro⟩ := F.called_set.mro
  have m1 := F.called_set.made
  have m2 := F.called_set.sub
  refine wpAny_call (codeAny_of_tree ?_)
  show wpAny _ _ (callAny (.type "set") _) _ _ _
  refine wpAny_pure ⟨Code.quiet_builtin _ (by decide +kernel), codeAny_builtin F.entry_type_call ?_⟩
  rw [Around.under_plain (weight_type_call_type "set" [.ref l] []) rfl]
  have m3 := F.called_set.notType
  have m4 := F.called_set.canCreate
  have m5 := F.typeCall_set_1 (.ref l)
  repeat (any_goals (first | assumption | wp_step))
  refine codeAny_mono (code_set_led1 (.ref l) (E := E) (Q₁ := fun u s₁ => u = .ref s.heap.objs.size ∧ s₁ = { s with heap := s.heap.push (z0 w) }) ⟨rfl, rfl⟩) fun r s₁ hr => ?_
  cases r with
  | error e => exact hr
  | ok fl =>
    cases fl with
    | ret u =>
      obtain ⟨rfl, rfl⟩ := hr
      have gS : (s.heap.push (z0 w)).get? s.heap.objs.size = some (z0 w) := Heap.get?_push_size _ rfl
      have tS : Shared.TypeIs { s with heap := s.heap.push (z0 w) } (.ref s.heap.objs.size) "set" := ⟨_, gS, rfl⟩
      have m6 := F.called_set.init.lookup
      have m7 := F.called_set.init.bind (.ref s.heap.objs.size)
      repeat (any_goals (first | assumption | wp_step))
      refine codeAny_mono (codeAny_call_builtin (R := wants (fun r s₂ => r = .none ∧ ∃ h' tk, s₂ = { s with heap := h', toks := tk } ∧ At w h' s.heap.objs.size (met [] ks) ∧ ∀ b o, s.heap.get? b = some o → h'.get? b = some o) E) F.called_set.init.plain F.entry_set_init (check_set_init_1 tS ?_)) fun r₂ s₂ hr₂ => ?_
      · obtain ⟨⟨lc, ld, lx, ls⟩, gl, hc, n, hd⟩ := hl
        simp only at hc hd
        subst hc hd
        have gl2 : (s.heap.push (z0 w)).get? l = some { cls := .type "list", dict := ld, data := .seq vs.toArray n, slots := ls } := Heap.get?_push_of_some _ gl
        have x1 := F.sub_list_set
        have x2 := F.sub_list_frozenset
        have x3 : (Value.type "list" == Value.type "dict") = false := by decide
        have il : (s.heap.push (z0 w)).IsList l vs.toArray := ⟨_, gl2, rfl, n, rfl⟩
        unfold Builtin.«set.__init__» noKeywords Builtin.Frozenset.updateFrom
        generalize e0 : pyIter = it0
        wp_walk
        subst e0
        refine wpAny_pyIter_list il (wpAny_bind (wpAny_runValue ?_))
        have lS : l < s.heap.objs.size := Heap.lt_size gl
        have hh3 : A.in1.in1.in1.handled = none := by simp [hh]
        have sz : (s.heap.push (z0 w)).objs.size = s.heap.objs.size + 1 := Heap.size_push ..
        have nI : l ≠ (s.heap.push (z0 w)).objs.size := by rw [sz]; exact Nat.ne_of_lt (Nat.lt_succ_of_lt lS)
        have nS : s.heap.objs.size ∉ [(s.heap.push (z0 w)).objs.size, l] := by
          rw [sz]
          intro z
          rcases List.mem_cons.mp z with z | z
          · exact absurd z (Nat.ne_of_lt (Nat.lt_succ_self _))
          · exact absurd (List.mem_singleton.mp z) (Nat.ne_of_gt lS)
        have val : ∀ (i : Nat) (v : Value), vs.toArray[i]? = some v → ∃ k u, ks[i]? = some k ∧ v = .str k u := fun i v hv => by
          rw [List.getElem?_toArray] at hv
          exact strs_get hs hv
        refine loop ((Walks.list hh3 _ l nI vs.toArray).toS) s.heap.objs.size nS ks len few val (vs.toArray.size - 0) 0 _ (by omega) (Nat.zero_le _) ⟨⟨_, Heap.get?_push_size _ rfl, rfl, rfl⟩, (il.push _)⟩ ?a0 ?a1
        case a0 => exact fresh (Heap.get?_push_of_some _ gS)
        case a1 =>
          intro s' mv D
          obtain ⟨h', g2, d', tk', os'⟩ := s'
          obtain rfl : g2 = s.gens := mv.gens
          obtain rfl : d' = s.drawn := mv.drawn
          obtain rfl : os' = s.os := mv.os
          refine wpAny_pure ?_
          show wpAny _ _ (ret Value.none) _ _ _
          refine wpAny_pure ⟨rfl, h', tk', rfl, D, fun b o e => ?_⟩
          have b0 := Heap.lt_size e
          refine mv.heap b o (fun z => ?_) (Heap.get?_push_of_some _ (Heap.get?_push_of_some _ e))
          rw [sz] at z
          rcases List.mem_cons.mp z with z | z
          · exact absurd z (Nat.ne_of_lt b0)
          · exact absurd (List.mem_singleton.mp z) (Nat.ne_of_lt (Nat.lt_succ_of_lt b0))
      · cases r₂ with
        | error e => exact hr₂
        | ok fl₂ =>
          cases fl₂ with
          | ret r =>
            obtain ⟨rfl, h', tk, rfl, D, kp⟩ := hr₂
            repeat (any_goals (first | assumption | wp_step))
            exact fin _ _ D kp
          | _ => exact hr₂.elim
    | _ => exact hr.elim
/-! ### sorted -/
theorem strs_of : ∀ {vs : List Value}, (∀ v ∈ vs, ∃ k u, v = Value.str k u) → StrsAre vs (vs.map fun v => kOf (0, v))
  | [], _ => .nil
  | v :: vs, h => by
    obtain ⟨k, u, rfl⟩ := h v (List.mem_cons_self ..)
    exact .cons k u (strs_of fun x hx => h x (List.mem_cons_of_mem _ hx))
theorem sort {a : Addr} {L : List Str} {Q : Value → Shared → Prop} (R : At w s.heap a L) (hh : A.handled = none) (few : L.length < 64)
    (fin : ∀ s' p (out : Array Value) (c : Nat) (ks : List Str), (∀ b o, s.heap.get? b = some o → s'.heap.get? b = some o) → s'.gens = s.gens → s'.os = s.os → s.heap.objs.size ≤ p →
      s'.heap.get? p = some (seqObj "list" out c) → StrsAre out.toList ks → ks.Perm L → sortedS ks = true → Q (.ref p) s') :
    wpAny (model P w) A (call (.builtin "sorted") [.ref a]) Q E s := by
  obtain ⟨o, es, ep, t, R⟩ := R
  refine Calls.call_function_entry kind_sorted plain_sorted entry_sorted (args_sorted1 _) ?_
  unfold Builtin.«sorted»
  refine wpAny_bind (m := checkCount "sorted" 1 1 _) (wpAny_pure ?_)
  refine wpAny_bind (collect_set (A := A.in1) hh ⟨o, R.ob, R.ex.1, R.dat⟩ R.fit R.few R.ris R.led fun s1 vs k1 z g1 o1 pm => ?_)
  have len : vs.length = L.length := by rw [pm.length_eq, List.length_map, Array.length_toList, R.size]
  have are : StrsAre vs (vs.map fun v => kOf (0, v)) := strs_of fun v hv => by
    obtain ⟨e, he, rfl⟩ := List.mem_map.mp (pm.mem_iff.mp hv)
    obtain ⟨k, u, rfl⟩ := R.good e he
    exact ⟨k, u, rfl⟩
  have pk : (vs.map fun v => kOf (0, v)).Perm L := by
    refine (pm.map fun v => kOf (0, v)).trans ?_
    rw [List.map_map]
    exact R.keys
  refine wpAny_bind (wpAny_newList ?_ (by rw [len, sizeLine_eq]; omega))
  have gL : (s1.heap.push (seqObj "list" vs.toArray 0)).get? s1.heap.objs.size = some (seqObj "list" vs.toArray 0) := Heap.get?_push_size _ rfl
  refine wpAny_bind (wpAny_holding (wpAny_call_entry slot_list_sort ⟨_, gL, rfl⟩ entry_list_sort (list_sort_treeK strKind_oneLt gL are.keysOf (fun v₁ v₂ rest e => keyKind_strs (by rw [← e]; exact are)) (by rw [len]; exact few) fun st' a1 a2 => ⟨_, rfl, ?_⟩) (args_list_sort _)))
  obtain ⟨ks, r1, r2, r3⟩ := sorted_out_str are a1 a2
  obtain ⟨c, gc⟩ := sortedHeap_at (vs := vs) (out := (arrOf st').map (·.2)) gL
  refine wpAny_pure ⟨_, rfl, fin _ s1.heap.objs.size _ c ks (fun b u e => ?_) g1 o1 z gc r1 (r2.trans pk) r3⟩
  have q := k1 b u e
  have lt := Heap.lt_size q
  show (sortedHeap (s1.heap.push (seqObj "list" vs.toArray 0)) s1.heap.objs.size vs _).get? b = some u
  rw [sortedHeap_old (Nat.ne_of_lt lt) (by rw [size_push']; exact Nat.lt_succ_of_lt lt)]
  exact Heap.get?_push_of_some _ q
end
/-! ### as a tracked thing -/
def SO (w : World) (a : Addr) (L : List Str) : HO := .ext fun h => At w h a L
theorem so_new {w : World} {P : Program} {H : Hp} {h : Heap} {a : Addr} {L : List Str} (R : At w h a L) : ObjOk P w H h a (SO w a L) := by
  have R' := R
  obtain ⟨o, es, ep, t, r⟩ := R'
  exact ⟨R, ⟨o, r.ob⟩, fun h1 h2 p k => At.keep p k⟩
section
variable {X : Cx}
def rSet (K : PySem.W.Frag) (w : World) : List V → Hp → VK → Prop := fun xs H Q => ∃ (l : Addr) (ks : List Str), xs = [V.ref l] ∧ SqL K H l (ks.map V.str) ∧ ks.length < 4000 ∧ ∀ a, H a = none → Q (.ref a) (upd H a (SO w a (met [] ks)))
theorem cr_set (hc : X.calm = true) : CallR X (.type "set") (rSet X.K X.w) := by
  intro pins s σ H xs us Q I r ⟨l, ks, e, hl, few, q⟩
  subst e
  rw [Vals.ref1 r]
  obtain ⟨its, rv, pl, hz⟩ := I.list hl
  have hn : H s.heap.objs.size = none := I.hok.fresh (Nat.le_refl _)
  refine make (P := X.prog) (w := X.w) (I.ok.hd hc) pl.isList rv.strs (by show _ < 4096; omega) fun h' tk D k => ?_
  exact ⟨.ref s.heap.objs.size, _, I.laid (t' := tk) k (Nat.le_refl _) (so_new D), rfl, q _ hn⟩
def rSrt (w : World) : List V → Hp → VK → Prop := fun xs H Q => ∃ (a : Addr) (L : List Str), xs = [V.ref a] ∧ H a = some (SO w a L) ∧ L.length < 64 ∧ ∀ ys p, ys.Perm L → sortedS ys = true → H p = none → Q (.ref p) (upd H p (.lst (ys.map V.str)))
theorem cr_srt (hc : X.calm = true) : CallR X (.builtin "sorted") (rSrt X.w) := by
  intro pins s σ H xs us Q I r ⟨a, L, e, ha, few, q⟩
  subst e
  have R : At X.w s.heap a L := (I.hok a _ ha).1
  rw [Vals.ref1 r]
  refine sort (P := X.prog) (w := X.w) R (I.ok.hd hc) few fun s' p out c ks k g o hp gp are pm so => ?_
  have few2 : (ks.map V.str).length ≤ sizeLine := by rw [List.length_map, pm.length_eq, sizeLine_eq]; omega
  have hn : H p = none := I.hok.fresh hp
  have J : Inv X pins σ (upd H p (.lst (ks.map V.str))) { s with heap := s'.heap, gens := s'.gens, drawn := s'.drawn, toks := s'.toks } :=
    I.call (ch := []) (Un.laid k hp hn) (I.hok.laid k hp ⟨few2, out.toList, c, vals_of_strs are, gp⟩) (by rw [g]; exact I.bare) (fun _ z => nomatch z)
  obtain ⟨h1, g1, d1, t1, o1⟩ := s'
  obtain ⟨h0, g0, d0, t0, o0⟩ := s
  obtain rfl : o1 = o0 := o
  exact ⟨.ref p, _, J, rfl, q ks p pm so hn⟩
end
end TxS
namespace L2.DL
open PySem PySem.Spec PyProof.Rows
def srO : Option Ob → Sto → DK → Prop
  | some (.lst xs), st, Q => ∃ ks : List Str, xs = ks.map D.str ∧ ks.length < 4000 ∧ (TxS.met [] ks).length < 64 ∧ ∀ p, Nf st p → Q (.ref p) (put st p (.lst ((sortBy id (TxS.met [] ks)).map D.str)))
  | _, _, _ => False
/-- sorted(set(xs)), a list of texts -/
def mSortSet (m : ME) : ME := fun env st Q => m env st fun x st1 => match x with
  | .ref a => srO (st1 a) st1 Q
  | _ => False
theorem de_sortSet {X : Cx} {e : Expr} {m : ME} {p p2 pos pos2 : Pos} (hc : X.calm = true) (hg : Gl X "sorted") (hm : X.mg "sorted" = none) (hg2 : Gl X "set") (hm2 : X.mg "set" = none) (he : DE X e m) (hs : starEach [e] X.env = (false, eval e X.env) :: starEach [] X.env := by rfl)
    (hs2 : starEach [Expr.Call (.Name "set" p2) [e] [] pos2] X.env = (false, eval (Expr.Call (.Name "set" p2) [e] [] pos2) X.env) :: starEach [] X.env := by rfl) :
    DE X (.Call (.Name "sorted" p) [.Call (.Name "set" p2) [e] [] pos2] [] pos) (mSortSet m) := by
  refine ⟨pe_mono (pe_callB (TxS.cr_srt hc) hg hm rfl (pa_cons (pe_callTy (TxS.cr_set hc) hg2 hm2 rfl (pa_cons he.pe pa_nil hs) (he := hs)) pa_nil hs2) (he := hs2)) fun σ H Q ⟨env, st, Q0, re, rs, h, k⟩ => ?_⟩
  refine lift_in re rs h fun x st1 x' H1 q1 e1 rx re1 rs1 => ?_
  cases x <;> try exact q1.elim
  rename_i a
  cases rx
  cases e2 : st1 a with
  | none => simp only [e2] at q1; exact q1.elim
  | some o =>
    simp only [e2] at q1
    cases o <;> try exact q1.elim
    obtain ⟨ks, rfl, few, few2, q1⟩ := q1
    obtain ⟨ws, g, r⟩ := rs1.rdL (by rw [e2]; rfl)
    have ew := r.strs
    subst ew
    refine ⟨a, ks, rfl, g, by omega, fun b hb => ?_⟩
    have e3 : Ext H1 (upd H1 b (TxS.SO X.w b (TxS.met [] ks))) := .upd_new hb
    refine ⟨b, _, rfl, upd_same, few2, fun ys d pm so hd => ?_⟩
    · have ey := sortedS_eq pm so
      subst ey
      have e4 : ∀ u, Ext (upd H1 b (TxS.SO X.w b (TxS.met [] ks))) (upd (upd H1 b (TxS.SO X.w b (TxS.met [] ks))) d u) := fun u => .upd_new hd
      have nd : Nf st1 d := rs1.fresh (by
        by_cases c : d = b
        · rw [c]; exact hb
        · rw [upd_ne c] at hd; exact hd)
      exact k _ _ _ _ (q1 d nd) (e1.trans (e3.trans (e4 _))) (.ref d) ((rs1.new hb).put (o := .lst ((sortBy id (TxS.met [] ks)).map D.str)) (e4 _) ⟨_, upd_same, .of_strs _⟩)
theorem mSortSet_a {m : ME} {env : Env} {st : Sto} {Q : DK} : mSortSet m env st Q = m env st fun x st1 => match x with
  | .ref a => srO (st1 a) st1 Q
  | _ => False := rfl
end L2.DL

/-! sets of texts by a comprehension -/
namespace TxS
open PySem PySem.Spec PyProof.Rows L2
/-- a text put to the others -/
def adds (k : Str) (L : List Str) : List Str := if k ∈ L then L else k :: L
section
variable {X : Cx}
theorem so_add {pins : List (Addr × Obj)} {s : Shared} {σ : L2.St} {H : Hp} {E : Value → Shared → Prop} {D : Addr} {L : List Str} {k : Str} {u : Tok} {Q : Value → Shared → Prop} (I : Inv X pins σ H s) (hD : H D = some (SO X.w D L)) (few : L.length + 1 < scanBound)
    (fin : ∀ s', Inv X pins σ (upd H D (SO X.w D (adds k L))) s' → Q .none s') : wpAny (model X.prog X.w) X.A (call (.builtin "set.add") [.ref D, .str k u]) Q E s := by
  have R : At X.w s.heap D L := (I.hok D _ hD).1
  obtain ⟨o, es, ep, t, R0⟩ := id R
  have T : s.TypeIs (.ref D) "set" := ⟨o, R0.ob, R0.ex.1⟩
  refine wpAny_call_entry F.slot_set_add T F.entry_set_add ?_ (F.args_set_add_2 _ _)
  unfold Builtin.«set.add» Builtin.Frozenset.oneOther
  simp only [List.isEmpty_nil, bind_assoc]
  unfold Builtin.Frozenset.addrOf setAdd
  refine wpAny_bind (wpAny_pure ?_)
  try dsimp only
  refine wpAny_bind (wpAny_pure ?_)
  try dsimp only
  refine wpAny_bind (wpAny_holding (wpAny_bind ((strKind X.prog X.w).pyHash (isK k u) ?_)))
  refine add (s := { s with toks := s.toks + 1 }) R few fun h' b sb R1 => ?_
  obtain ⟨o1, es1, ep1, t1, R2⟩ := id R1
  show wpAny _ _ (ret Value.none) _ _ _
  exact wpAny_pure ⟨_, rfl, fin _ (I.write (e := D) (t' := s.toks + 1) (by rw [hD]; trivial) (.inl rfl) (fun c v hc hv => (sb.2 c hc).trans hv) ⟨o1, R2.ob⟩ (so_new R1))⟩
/-- {e for g in xs if t}, texts, D the new set -/
def tS (w : World) (wi : TI) (g : TG) (tt : TT) (te : TE) (vs : List Nat) : TE := fun σ H Q => wi σ H fun J H1 => ∀ D, H1 D = none → ∃ W : Nat → Nat → Hp → Prop, (∃ m, W 0 m (upd H1 D (SO w D []))) ∧ ∀ i m H, W i m H →
  (J.stop i H ∧ Q (.ref D) H) ∨ (J.go i H ∧ ∃ N : Hp → Prop, (∀ H', N H' → ∃ m', m' < m ∧ W (i + 1) m' H') ∧ ∀ x H', J.yld i H x H' → g x (wipe σ vs) H' fun σ2 H2 => wipe σ2 vs = wipe σ vs ∧ tt σ2 H2 fun b H3 =>
    if b = true then te σ2 H3 fun y H4 => ∃ (k : Str) (L : List Str), y = .str k ∧ H4 D = some (SO w D L) ∧ L.length + 1 < scanBound ∧ N (upd H4 D (SO w D (adds k L))) else N H3)
theorem core {pins : List (Addr × Obj)} {s : Shared} {σ : L2.St} {H : Hp} {Q : VK} {elt tg iter : Expr} {ifs : List Expr} {scope : Scope} {own : List (PySem.Str × Nat)} {pos pos' : Pos} {wi : TI} {g : TG} {tt : TT} {te : TE} {use : Option (Value → Sem Unit)} {Qf : Value → Shared → Prop}
    (calm : X.calm = true) (nd : X.N.Nodup) (I : Inv X pins σ H s) (hi : PI X tg iter wi) (ok : BlkOk X.N X.env.scope scope own)
    (hg : ∀ (s : Shared) (H : Hp) (C : Addr) (cl : List (PySem.Str × Addr)) (fp : List Addr), PG (X.blk s H scope (compEnvC scope cl C X.env) fp) tg g)
    (ht : ∀ (s : Shared) (H : Hp) (C : Addr) (cl : List (PySem.Str × Addr)) (fp : List Addr), PTs (X.blk s H scope (compEnvC scope cl C X.env) fp) ifs tt)
    (he : ∀ (s : Shared) (H : Hp) (C : Addr) (cl : List (PySem.Str × Addr)) (fp : List Addr), PE (X.blk s H scope (compEnvC scope cl C X.env) fp) elt te) (hs : ∀ x, foldedSetIterable iter X.env x = pure x)
    (h : tS X.w wi g tt te (own.map (·.2)) σ H Q)
    (fin : ∀ D C s' m H', Inv X pins σ H' s' → Q (.ref D) H' → s'.heap.Ns C m → FpOk X pins H' C → compPost (model X.prog X.w) X.A X.xe use Qf (.ref D) C (.ok .next) s') :
    wpAny (model X.prog X.w) X.A (comprehension (.SetComp elt [⟨tg, iter, ifs, 0⟩] scope pos) scope X.env pos' (newSet (.type "set")) false (eval iter X.env) use) Qf X.xe s := by
  have frees : ∀ y ∈ scope.names, y.2 = .free → ∃ c, X.env.cells.lookup y.1 = some c := fun y hy e => I.ok.has _ (ok.free y hy e)
  refine wpAny_comprehension_free (use := use) rfl hs (closure_ok frees) ok.kind (fun y hy e => by rw [ok.uniq y hy, e])
    (thn (hi.run pins s σ H _ I h) fun _ sa ha => thn ha fun _ sb hb => ?_)
  obtain ⟨it, fp, tn, J, Hb, e, Ib, T, tb, kb, q⟩ := hb
  subst e
  refine PpSet.newSet_ok (newEnv_comp ?_)
  generalize eD : sb.heap.objs.size = D
  obtain ⟨W, ⟨m0, w0⟩, turn⟩ := q D (Ib.hok.fresh (Nat.le_of_eq eD))
  have gD : (sb.heap.push (z0 X.w)).get? D = some (z0 X.w) := by rw [← eD]; exact Heap.get?_push_size _ rfl
  generalize es : ({ sb with heap := sb.heap.push (z0 X.w) } : Shared) = sc
  have Ic : Inv X pins σ (upd Hb D (SO X.w D [])) sc := by
    rw [← es]
    exact Ib.laid (t' := sb.toks) (fun b o z => Heap.get?_push_of_some _ z) (Nat.le_of_eq eD) (so_new (fresh gD))
  have hc3 : sc.heap = sb.heap.push (z0 X.w) := by rw [← es]
  have low : ∀ b ∈ fp, b < sb.heap.objs.size := fun b z => by
    obtain ⟨o, z, _⟩ := T.obj _ _ tb b z
    exact Heap.lt_size z
  have kc : ∀ b ∈ fp, FpOk X pins (upd Hb D (SO X.w D [])) b ∧ b < sc.heap.objs.size := fun b z => by
    have lt := low b z
    refine ⟨⟨?_, (kb b z).2⟩, by rw [hc3, Heap.size_push]; exact Nat.lt_succ_of_lt lt⟩
    rw [upd_ne (by rw [← eD]; exact Nat.ne_of_lt lt)]
    exact (kb b z).1
  have tc : tn 0 sc.heap := T.keep _ _ _ tb fun b _ o z => by rw [hc3]; exact Heap.get?_push_of_some _ z
  have Id := block_start Ic ok nd kc
  have rg := hg sc (upd Hb D (SO X.w D [])) sc.heap.objs.size (cellsFrom (sc.heap.objs.size + 1) scope.names (cloFrom X.env.cells scope.names [])) fp
  have rt := ht sc (upd Hb D (SO X.w D [])) sc.heap.objs.size (cellsFrom (sc.heap.objs.size + 1) scope.names (cloFrom X.env.cells scope.names [])) fp
  have re := he sc (upd Hb D (SO X.w D [])) sc.heap.objs.size (cellsFrom (sc.heap.objs.size + 1) scope.names (cloFrom X.env.cells scope.names [])) fp
  show codeAny _ _ (.compStart (.SetComp elt [⟨tg, iter, ifs, 0⟩] scope pos) 0 (.ref it) (.ref D) (compEnvC scope (cellsFrom (sc.heap.objs.size + 1) scope.names (cloFrom X.env.cells scope.names [])) sc.heap.objs.size X.env)) (compPost (model X.prog X.w) X.A X.xe use Qf (.ref D) sc.heap.objs.size) { sc with heap := pushCells (sc.heap.push { cls := .type "dict", data := .dict #[] }) scope.names }
  have nop : ∀ b ∈ fp, (upd Hb D (SO X.w D [])) b = none := fun b z => (kc b z).1.1
  generalize en : compEnvC scope (cellsFrom (sc.heap.objs.size + 1) scope.names (cloFrom X.env.cells scope.names [])) sc.heap.objs.size X.env = ce at Id rg rt re ⊢
  have cL : ce.locals = sc.heap.objs.size := by rw [← en]; rfl
  generalize eH : upd Hb D (SO X.w D []) = Hc at Ic Id rg rt re w0 nop kc
  generalize ed : ({ sc with heap := pushCells (sc.heap.push { cls := .type "dict", data := .dict #[] }) scope.names } : Shared) = sd at Id ⊢
  have td : tn 0 sd.heap := T.keep _ _ _ tc fun b _ o z => by rw [← ed]; exact pushCells_keeps _ _ _ _ (Heap.get?_push_of_some _ z)
  have still : ∀ {σ' : L2.St} {H' : Hp} {s' : Shared}, Inv (X.blk sc Hc scope ce fp) [] σ' H' s' → (∀ b ∈ fp, H' b = none) → ∀ b ∈ fp, FpOk (X.blk sc Hc scope ce fp) [] H' b := fun {σ' H' s'} K no b z =>
    ⟨no b z, (K.ok.exf b z).1, K.ok.exfs b z, .inl z, fun x c w => (K.ok.exf b z).2 x c w, fun p w => absurd (show p ∈ ([] : List (Addr × Obj)) ++ [] from w) (by simp)⟩
  have run : codeAny (model X.prog X.w) X.A (.compLoop (.SetComp elt [⟨tg, iter, ifs, 0⟩] scope pos) 0 (.ref it) (.ref D) ce) (compPost (model X.prog X.w) X.A X.xe use Qf (.ref D) sc.heap.objs.size) sd := by
    refine PpSet.compLoopS_any (fun n s' => ∃ i H', Inv (X.blk sc Hc scope ce fp) [] (wipe σ (own.map (·.2))) H' s' ∧ tn i s'.heap ∧ (∀ b ∈ fp, H' b = none) ∧ W i n H') ?_ m0 ⟨0, Hc, Id, td, nop, w0⟩
    rintro n s5 ⟨i, H5, K5, t5, n5, w5⟩
    rcases turn i n H5 w5 with ⟨stp, qq⟩ | ⟨go, N, hN, step⟩
    · refine thnF (T.done (X.blk sc Hc scope ce fp) rfl rfl rfl calm i [] s5 _ H5 (fun _ _ => False) K5 (still K5 n5) t5 stp) fun r s6 ⟨hr, K6⟩ => ?_
      subst hr
      have K7 : Inv X pins σ H5 s6 := Ic.call' (ch := fp) K6.os K6.base K6.hok K6.bare fun b z => ⟨(kc b z).1.2.2.2.1, (kc b z).1.2.1, (kc b z).1.2.2.2.2.1, (kc b z).1.2.2.2.2.2⟩
      have nC : H5 ce.locals = none := K6.free
      obtain ⟨m, hn, _⟩ := K6.loc
      have hn : s6.heap.Ns ce.locals m := hn
      rw [cL] at hn nC
      exact fin D sc.heap.objs.size s6 m H5 K7 qq hn (Ic.fpOk (Nat.le_refl _) nC)
    · refine thnF (T.item (X.blk sc Hc scope ce fp) rfl rfl rfl calm i [] s5 _ H5 (fun _ _ => False) K5 (still K5 n5) t5 go) fun r s6 ⟨u, hr, h6⟩ => ?_
      subst hr
      refine thnF h6 fun _ s7 ⟨x, H7, K7, r7, y7, t7, n7⟩ => ?_
      refine thnF (rg.run _ s7 _ H7 x u _ (K7.pinned (still K7 n7) (T.obj _ _ t7)) r7 (step x H7 y7)) fun _ s8 ⟨σ8, H8, K8, w8, q8⟩ => ?_
      refine thnF (rt.run _ s8 σ8 H8 _ K8 q8) fun b s9 ⟨H9, K9, q9⟩ => ?_
      have done : ∀ {s' : Shared} {H' : Hp}, Inv (X.blk sc Hc scope ce fp) ([] ++ pinsAt fp s7.heap) σ8 H' s' → N H' → ∃ m, m < n ∧ ∃ i H', Inv (X.blk sc Hc scope ce fp) [] (wipe σ (own.map (·.2))) H' s' ∧ tn i s'.heap ∧ (∀ b ∈ fp, H' b = none) ∧ W i m H' := fun {s' H'} K nx => by
        obtain ⟨m', lt, w'⟩ := hN H' nx
        have pin : ∀ b ∈ fp, ∀ o, s7.heap.get? b = some o → s'.heap.get? b = some o ∧ H' b = none := fun b z o e =>
          ⟨(K.pin (b, o) (List.mem_append_right _ (List.mem_append_right _ (mem_pinsAt z e)))).1, (K.pin (b, o) (List.mem_append_right _ (List.mem_append_right _ (mem_pinsAt z e)))).2.1⟩
        have len : (wipe σ (own.map (·.2))).length = σ8.length := by rw [← w8, wipe_length]
        refine ⟨m', lt, i + 1, H', (K.unpinned (pins := [])).weak len (fun j v e => ?_), T.keep _ _ _ t7 fun b z o e => (pin b z o e).1, fun b z => ?_, w'⟩
        · rw [← w8] at e
          exact (wipe_some e).1
        · obtain ⟨o, e, _⟩ := T.obj _ _ t7 b z
          exact (pin b z o e).2
      cases b with
      | false =>
        simp only [Bool.false_eq_true, if_false] at q9 ⊢
        exact done K9 q9
      | true =>
        simp only [if_true] at q9 ⊢
        refine thnF (re.run _ s9 σ8 H9 _ K9 q9) fun v s10 ⟨y, H10, K10, r10, k, L, ey, hD, few, nx⟩ => ?_
        subst ey
        obtain ⟨tok, ev⟩ : ∃ tok, v = Value.str k tok := r10
        subst ev
        exact so_add (X := X.blk sc Hc scope ce fp) K10 hD few fun s11 K11 => done K11 nx
  exact PpSet.codeAny_compStart_set run (T.self X.A 0 _ _ _ td run)
theorem pe_comp {elt tg iter : Expr} {ifs : List Expr} {scope : Scope} {own : List (PySem.Str × Nat)} {pos : Pos} {wi : TI} {g : TG} {tt : TT} {te : TE} (calm : X.calm = true) (nd : X.N.Nodup) (hi : PI X tg iter wi) (ok : BlkOk X.N X.env.scope scope own)
    (hg : ∀ (s : Shared) (H : Hp) (C : Addr) (cl : List (PySem.Str × Addr)) (fp : List Addr), PG (X.blk s H scope (compEnvC scope cl C X.env) fp) tg g)
    (ht : ∀ (s : Shared) (H : Hp) (C : Addr) (cl : List (PySem.Str × Addr)) (fp : List Addr), PTs (X.blk s H scope (compEnvC scope cl C X.env) fp) ifs tt)
    (he : ∀ (s : Shared) (H : Hp) (C : Addr) (cl : List (PySem.Str × Addr)) (fp : List Addr), PE (X.blk s H scope (compEnvC scope cl C X.env) fp) elt te) (hs : ∀ x, foldedSetIterable iter X.env x = pure x := by intro _; rfl) :
    PE X (.SetComp elt [⟨tg, iter, ifs, 0⟩] scope pos) (tS X.w wi g tt te (own.map (·.2))) :=
  ⟨fun pins s σ H Q I h => by
    rw [PpSet.eval_SetComp]
    exact core calm nd I hi ok hg ht he hs h fun D C s' m H' K q hn f => ⟨m, hn, fun h'' sb => ⟨.ref D, H', K.turned (t' := s'.toks) (fun b o z e => (sb.2 b z).trans e) f.1 f.2.1 f.2.2.2.1 f.2.2.2.2.1 f.2.2.2.2.2, rfl, q⟩⟩⟩
end
end TxS
namespace L2.DL
open PySem PySem.Spec PyProof.Rows
/-- sorted({e for g in xs if t}), texts: the set is at p, o what stands there -/
def mSortSc (mi : MI) (g : MG) (mt : MT) (me : ME) (ws : List Nat) : ME := fun env st Q => mi env st fun xs ok st1 => ∀ (p : Addr) (o : List Str → HO), Nf st1 p → ∃ W : Nat → List Str → Sto → Prop, W 0 [] (put st1 p (.raw (o []))) ∧
  (∀ i acc st, i ≤ xs.length → W i acc st → ok st) ∧
  (∀ i acc x st, xs[i]? = some x → W i acc st → g x (wipeE env ws) st fun env2 st2 => mt env2 st2 fun b st3 =>
    if b = true then me env2 st3 fun y st4 => ∃ k, y = .str k ∧ st4 p = some (.raw (o acc)) ∧ acc.length < 4000 ∧ W (i + 1) (TxS.adds k acc) (put st4 p (.raw (o (TxS.adds k acc)))) else W (i + 1) acc st3) ∧
  (∀ acc st, W xs.length acc st → st p = some (.raw (o acc)) ∧ acc.length < 64 ∧ ∀ p2, Nf st p2 → Q (.ref p2) (put st p2 (.lst ((sortBy id acc).map D.str))))
theorem lift_sc {w : World} {K : PySem.W.Frag} {mi : MI} {g : MG} {mt : MT} {me : ME} {ws : List Nat} {σ : L2.St} {H : Hp} {Q : VK} (h : lift K (mSortSc mi g mt me ws) σ H Q) :
    TxS.tS w (liftI K mi) (liftGc K g ws) (liftT K mt) (lift K me) ws σ H fun x H1 => TxS.rSrt w [x] H1 Q := by
  obtain ⟨env, st, Q0, re, rs, h, k⟩ := h
  refine ⟨env, st, _, re, rs, h, fun xs ok st1 J H1 q e1 rs1 S p hp => ?_⟩
  obtain ⟨W, w0, hok, turn, fin⟩ := q p (TxS.SO w p) (rs1.fresh hp)
  have exp : Ext H1 (upd H1 p (TxS.SO w p [])) := .upd_new hp
  refine ⟨fun i m H' => m = xs.length - i ∧ i ≤ xs.length ∧ ∃ acc st', Ext H1 H' ∧ RelSto K H' st' ∧ W i acc st', ⟨xs.length, by simp, Nat.zero_le _, [], _, exp, rs1.put (o := .raw (TxS.SO w p [])) exp upd_same, w0⟩, ?_⟩
  rintro i m H' ⟨rfl, hi, acc, st', e2, rs2, w⟩
  have okk := hok i acc st' hi w
  by_cases hlt : i < xs.length
  · refine .inr ⟨S.go i H' st' hlt e2 rs2 okk, fun H2 => ∃ acc2 st2, Ext H1 H2 ∧ RelSto K H2 st2 ∧ W (i + 1) acc2 st2, fun H2 z => ⟨xs.length - (i + 1), by omega, rfl, hlt, z⟩, fun x H3 y => ?_⟩
    obtain ⟨d, hd, rd, kp⟩ := S.yld i H' st' x H3 hlt e2 rs2 okk y
    have e3 : Ext H' H3 := .of_keep kp
    refine ⟨d, wipeE env ws, st', _, rd, ((re.mono (e1.trans (e2.trans e3))).wipe ws), rs2.of_keep kp, turn i acc d st' hd w, fun env4 st4 σ4 H4 q4 e4 re4 rs4 ew => ⟨by rw [ew, wipe_wipe], ?_⟩⟩
    refine liftT_in re4 rs4 q4 fun b st5 H5 q5 e5 re5 rs5 => ?_
    have E5 : Ext H1 H5 := e2.trans (e3.trans (e4.trans e5))
    cases b with
    | false => exact ⟨acc, st5, E5, rs5, q5⟩
    | true =>
      refine lift_in re5 rs5 q5 fun y st6 y' H6 ⟨kk, ey, hD, hz, w6⟩ e6 ry re6 rs6 => ?_
      subst ey
      have gD : H6 p = some (TxS.SO _ p acc) := rs6 _ _ hD
      have ex : ∀ u, Ext H6 (upd H6 p u) := fun u => .upd_mut (by rw [gD]; trivial)
      exact ⟨kk, acc, ry.str_of, gD, by show acc.length + 1 < 4096; omega, _, _, E5.trans (e6.trans (ex _)), rs6.put (o := .raw (TxS.SO _ p (TxS.adds kk acc))) (ex _) upd_same, w6⟩
  · have hn : i = xs.length := by omega
    subst hn
    obtain ⟨f1, f2, f3⟩ := fin acc st' w
    refine .inl ⟨S.stop _ H' st' (Nat.le_refl _) e2 rs2 okk, p, acc, rfl, rs2 _ _ f1, f2, fun ys c pm so hc => ?_⟩
    have ey := sortedS_eq pm so
    subst ey
    have ex : Ext H' (upd H' c (.lst ((sortBy id acc).map V.str))) := .upd_new hc
    exact k _ _ _ _ (f3 c (rs2.fresh hc)) (e1.trans (e2.trans ex)) (.ref c) (rs2.put (o := .lst ((sortBy id acc).map D.str)) ex ⟨_, upd_same, .of_strs _⟩)
section
variable {X : Cx}
theorem de_sortSc {elt tg iter : Expr} {ifs : List Expr} {scope : Scope} {own : List (Str × Nat)} {ws : List Nat} {p pos pos2 : Pos} {mi : MI} {g : MG} {mt : MT} {me : ME} (hc : X.calm = true) (hgl : Gl X "sorted") (hm : X.mg "sorted" = none) (hN : X.N.Nodup) (hi : DI X tg iter mi) (ok : BlkOk X.N X.env.scope scope own)
    (hg : ∀ (s : Shared) (H : Hp) (C : Addr) (cl : List (Str × Addr)) (fp : List Addr), DGc (X.blk s H scope (compEnvC scope cl C X.env) fp) tg g ws) (ht : ∀ (s : Shared) (H : Hp) (C : Addr) (cl : List (Str × Addr)) (fp : List Addr), DTs (X.blk s H scope (compEnvC scope cl C X.env) fp) ifs mt)
    (he : ∀ (s : Shared) (H : Hp) (C : Addr) (cl : List (Str × Addr)) (fp : List Addr), DE (X.blk s H scope (compEnvC scope cl C X.env) fp) elt me) (hws : own.map (·.2) = ws := by rfl) (hs : ∀ x, foldedSetIterable iter X.env x = pure x := by intro _; rfl)
    (hs2 : starEach [Expr.SetComp elt [⟨tg, iter, ifs, 0⟩] scope pos2] X.env = (false, eval (Expr.SetComp elt [⟨tg, iter, ifs, 0⟩] scope pos2) X.env) :: starEach [] X.env := by rfl) :
    DE X (.Call (.Name "sorted" p) [.SetComp elt [⟨tg, iter, ifs, 0⟩] scope pos2] [] pos) (mSortSc mi g mt me ws) := by
  subst hws
  exact ⟨pe_mono (pe_callB (TxS.cr_srt hc) hgl hm rfl (pa_cons (TxS.pe_comp hc hN hi.pi ok (fun s H C cl fp => (hg s H C cl fp).pg) (fun s H C cl fp => (ht s H C cl fp).pts) (fun s H C cl fp => (he s H C cl fp).pe) hs) pa_nil hs2) (he := hs2)) fun σ H Q => lift_sc⟩
end
def scO (xs : List D) (ok : Sto → Prop) (g : MG) (mt : MT) (me : ME) (ws : List Nat) (env : Env) (st1 : Sto) (Q : DK) : Prop := ∀ (p : Addr) (o : List Str → HO), Nf st1 p → ∃ W : Nat → List Str → Sto → Prop, W 0 [] (put st1 p (.raw (o []))) ∧
  (∀ i acc st, i ≤ xs.length → W i acc st → ok st) ∧
  (∀ i acc x st, xs[i]? = some x → W i acc st → g x (wipeE env ws) st fun env2 st2 => mt env2 st2 fun b st3 =>
    if b = true then me env2 st3 fun y st4 => ∃ k, y = .str k ∧ st4 p = some (.raw (o acc)) ∧ acc.length < 4000 ∧ W (i + 1) (TxS.adds k acc) (put st4 p (.raw (o (TxS.adds k acc)))) else W (i + 1) acc st3) ∧
  (∀ acc st, W xs.length acc st → st p = some (.raw (o acc)) ∧ acc.length < 64 ∧ ∀ p2, Nf st p2 → Q (.ref p2) (put st p2 (.lst ((sortBy id acc).map D.str))))
theorem mSortSc_a {mi : MI} {g : MG} {mt : MT} {me : ME} {ws : List Nat} {env : Env} {st : Sto} {Q : DK} : mSortSc mi g mt me ws env st Q = mi env st fun xs ok st1 => scO xs ok g mt me ws env st1 Q := rfl
theorem _root_.TxS.met_more : ∀ (a b L : List Str), TxS.met L (a ++ b) = TxS.met (TxS.met L a) b
  | [], _, _ => rfl
  | x :: a, b, L => by
    show TxS.met _ (a ++ b) = _
    rw [TxS.met_more a b]
    rfl
theorem _root_.TxS.met_ge : ∀ (a L : List Str), L.length ≤ (TxS.met L a).length
  | [], L => Nat.le_refl _
  | x :: a, L => by
    have h := TxS.met_ge a (TxS.adds x L)
    have h2 : L.length ≤ (TxS.adds x L).length := by
      unfold TxS.adds
      split
      · exact Nat.le_refl _
      · exact Nat.le_succ _
    show _ ≤ (TxS.met (TxS.adds x L) a).length
    omega
theorem met_app (L : List Str) (k : Str) : ∀ (r : List Str), TxS.met L (r ++ [k]) = TxS.adds k (TxS.met L r) := fun r => TxS.met_snoc r L k
theorem Nf.backK' {st st' : Sto} {p : Addr} (h : Nf st' p) (u : Keep st st') : Nf st p := by
  cases e : st p with
  | none => exact .inl e
  | some o =>
    cases o with
    | rol xs => exact .inr ⟨xs, e⟩
    | _ => exact absurd rfl (h.not (u _ _ (by trivial) e) (by trivial))
/-- no draws: the texts by what each item gives -/
theorem sc_keep {xs : List D} {ok : Sto → Prop} {g : MG} {mt : MT} {me : ME} {ws : List Nat} {env : Env} {st1 : Sto} {Q : DK} (f : D → Option Str) (hok : ∀ st', Keep st1 st' → ok st') (hl : (TxS.met [] (xs.filterMap f)).length < 64)
    (turn : ∀ x ∈ xs, ∀ st2, Keep st1 st2 → ∀ (P : DK) (N : Sto → Prop), (∀ y st3, f x = some y → Keep st2 st3 → P (.str y) st3) → (∀ st3, f x = none → Keep st2 st3 → N st3) → g x (wipeE env ws) st2 fun env2 st3 => mt env2 st3 fun b st4 => if b = true then me env2 st4 P else N st4)
    (fin : ∀ p st', Nf st1 p → Keep st1 st' → st' p = some (.lst ((sortBy id (TxS.met [] (xs.filterMap f))).map D.str)) → Q (.ref p) st') :
    scO xs ok g mt me ws env st1 Q := by
  intro p o hp
  have bd : ∀ i, (TxS.met [] ((xs.take i).filterMap f)).length < 64 := fun i => by
    have h2 : TxS.met [] (xs.filterMap f) = TxS.met (TxS.met [] ((xs.take i).filterMap f)) ((xs.drop i).filterMap f) := by
      conv => lhs; rw [← List.take_append_drop i xs, List.filterMap_append]
      exact TxS.met_more _ _ _
    have h3 := TxS.met_ge ((xs.drop i).filterMap f) (TxS.met [] ((xs.take i).filterMap f))
    rw [← h2] at h3
    omega
  refine ⟨fun i acc st => acc = TxS.met [] ((xs.take i).filterMap f) ∧ Keep st1 st ∧ st p = some (.raw (o acc)), ⟨rfl, Keep.put hp, put_same⟩, fun i acc st _ ⟨_, u, _⟩ => hok st u, fun i acc x st hx ⟨hf, u, e⟩ => ?_, fun acc st ⟨hf, u, e⟩ => ?_⟩
  · have hb := bd i
    rw [← hf] at hb
    refine turn x (List.mem_of_getElem? hx) st u _ _ (fun y st5 h1 h2 => ?_) (fun st5 h1 h2 => ?_)
    · refine ⟨y, rfl, h2 _ _ trivial e, by omega, ?_, (u.trans h2).mut hp, put_same⟩
      rw [take_snoc hx, List.filterMap_append, hf]
      have : [x].filterMap f = [y] := by simp [h1]
      rw [this, met_app]
    · refine ⟨?_, u.trans h2, h2 _ _ trivial e⟩
      rw [take_snoc hx, List.filterMap_append, hf]
      have : [x].filterMap f = [] := by simp [h1]
      rw [this, List.append_nil]
  · have hb := bd xs.length
    rw [← hf] at hb
    refine ⟨e, hb, fun p2 hp2 => ?_⟩
    rw [List.take_length] at hf
    exact fin p2 _ (hp2.backK' u) (u.new hp2) (by rw [put_same, hf])
/-- a promise of nothing: what a recursive def may ask at its last depth -/
theorem liftSp_no {K : PySem.W.Frag} {vs : List V} {H : Hp} {Q : VK} {E : XK} (h : liftSp K (fun _ _ _ => False) vs H Q E) : False := by
  obtain ⟨_, _, _, _, _, h, _⟩ := h
  exact h
end L2.DL

namespace L2.DL
open PySem PySem.Spec PyProof.Rows
/-! lists against [] ; pop at a place ; texts turned about -/
/-- data that == takes -/
def okPy (xs : List D) : Prop := ∃ ps, toPys xs = some ps ∧ SeqAt.shaped (.list ps) = true
theorem toPys_nil {xs : List D} {ps : List PyData} (h : toPys xs = some ps) : ps.isEmpty = xs.isEmpty := by
  cases xs with
  | nil => simp only [toPys, Option.some.injEq] at h; subst h; rfl
  | cons d ds =>
    simp only [toPys] at h
    cases e : toPy d with
    | none => rw [e] at h; cases h
    | some p =>
      rw [e] at h
      cases e2 : toPys ds with
      | none => rw [e2] at h; cases h
      | some q => rw [e2] at h; cases h; rfl
theorem eqv_nil (ps : List PyData) : PyData.eqv (.list ps) (.list []) = ps.isEmpty := by
  cases ps <;> simp [PyData.eqv, PyData.eqvAll]
theorem shaped_nil : SeqAt.shaped (.list []) = true := by decide
theorem rdO_some {o : Option Ob} {P : List D → Prop} (h : rdO o P) : ∃ xs, rdL o = some xs ∧ P xs := by
  cases o with
  | none => exact h.elim
  | some o =>
    cases o with
    | lst xs => exact ⟨xs, rfl, h⟩
    | rol xs => exact ⟨xs, rfl, h⟩
    | dic xs => exact h.elim
    | rod xs => exact h.elim
    | raw o => exact h.elim
def nilO : D → Sto → (Bool → Prop) → Prop
  | .ref a, st, K => rdO (st a) fun xs => okPy xs ∧ K xs.isEmpty
  | _, _, _ => False
/-- e != [] -/
def mNeNil (m : ME) : ME := fun env st Q => m env st fun x st1 => nilO x st1 fun b => Q (.bl (!b)) st1
/-- e == [] -/
def mEqNil (m : ME) : ME := fun env st Q => m env st fun x st1 => nilO x st1 fun b => Q (.bl b) st1
section
variable {X : Cx}
theorem nil_facts {K : PySem.W.Frag} {H : Hp} {st : Sto} {x : D} {v : V} {k : Bool → Prop} (h : nilO x st k) (rx : RelD K H x v) (rs : RelSto K H st) : ∃ (xs : List D) (ps : List PyData), k xs.isEmpty ∧ SeqAt.shaped (.list ps) = true ∧ ps.isEmpty = xs.isEmpty ∧ ∀ p, H p = none →
    Dp K (upd H p (.lst [])) v (.list ps) ∧ Dp K (upd H p (.lst [])) (.ref p) (.list []) := by
  cases x <;> try exact h.elim
  rename_i a
  obtain ⟨xs, e, ⟨ps, e1, s1⟩, q⟩ := rdO_some (show rdO (st a) _ from h)
  refine ⟨xs, ps, q, s1, toPys_nil e1, fun p hp => ⟨?_, ?_⟩⟩
  · have ex : Ext H (upd H p (.lst [])) := .upd_new hp
    exact pyOf_dp (rs.new hp) (rx.mono ex) (by show ((rdL (st a)).bind toPys).map _ = _; rw [e]; simp only [Option.bind_some, e1]; rfl)
  · have ex : Ext H (upd H p (.lst [])) := .upd_new hp
    exact pyOf_dp (st := put st p (.lst [])) (rs.put (o := .lst []) ex ⟨[], upd_same, .nil⟩) (.ref p) (by show ((rdL (put st p (.lst []) p)).bind toPys).map _ = _; rw [put_same]; rfl)
theorem lift_neNil {K : PySem.W.Frag} {m : ME} {σ : L2.St} {H : Hp} {Q : VK} (h : lift K (mNeNil m) σ H Q) : tOp (rNeD K) (lift K m) (tLst tNil) σ H Q := by
  obtain ⟨env, st, Q0, re, rs, h, k⟩ := h
  refine lift_in re rs h fun x st1 x' H1 q1 e1 rx re1 rs1 => ?_
  obtain ⟨xs, ps, q, s1, em, f⟩ := nil_facts q1 rx rs1
  refine ⟨by decide, fun p hp => ?_⟩
  obtain ⟨d1, d2⟩ := f p hp
  refine ⟨_, _, d1, d2, s1, shaped_nil, ?_⟩
  rw [eqv_nil, em]
  exact k _ _ _ _ q (e1.trans (.upd_new hp)) (.bl _) (rs1.new hp)
theorem de_neNil {e : Expr} {m : ME} {pos pos2 : Pos} (hu : X.A.units + 64 < cLine) (he : DE X e m) : DE X (.Compare e [.NotEq] [.List [] pos2] pos) (mNeNil m) :=
  ⟨pe_mono (pe_cmpR (op_neD hu) he.pe (pe_lst pa_nil) (nomark _)) fun σ H Q => lift_neNil⟩
theorem dt_neNil {e : Expr} {m : ME} {pos pos2 : Pos} (hu : X.A.units + 64 < cLine) (he : DE X e m) : DT X (.Compare e [.NotEq] [.List [] pos2] pos) (mTest (mNeNil m)) :=
  ⟨pt_mono (pt_cmpR (op_neD hu) he.pe (pe_lst pa_nil) (nomark _)) fun σ H Q ⟨env, st, Q0, re, rs, h, k⟩ => by
    refine lift_neNil ⟨env, st, _, re, rs, h, fun d st' v H' ⟨c, e, q⟩ ex r s => ?_⟩
    subst e
    exact ⟨c, r.bl_of, k c st' H' q ex s⟩⟩
theorem lift_eqNil {K : PySem.W.Frag} {m : ME} {σ : L2.St} {H : Hp} {Q : VK} (h : lift K (mEqNil m) σ H Q) : tOp (rEqD K) (lift K m) (tLst tNil) σ H Q := by
  obtain ⟨env, st, Q0, re, rs, h, k⟩ := h
  refine lift_in re rs h fun x st1 x' H1 q1 e1 rx re1 rs1 => ?_
  obtain ⟨xs, ps, q, s1, em, f⟩ := nil_facts q1 rx rs1
  refine ⟨by decide, fun p hp => ?_⟩
  obtain ⟨d1, d2⟩ := f p hp
  refine ⟨_, _, d1, d2, s1, shaped_nil, ?_⟩
  rw [eqv_nil, em]
  exact k _ _ _ _ q (e1.trans (.upd_new hp)) (.bl _) (rs1.new hp)
theorem de_eqNil {e : Expr} {m : ME} {pos pos2 : Pos} (hu : X.A.units + 64 < cLine) (he : DE X e m) : DE X (.Compare e [.Eq] [.List [] pos2] pos) (mEqNil m) :=
  ⟨pe_mono (pe_cmpR (op_eqD hu) he.pe (pe_lst pa_nil) (nomark _)) fun σ H Q => lift_eqNil⟩
theorem dt_eqNil {e : Expr} {m : ME} {pos pos2 : Pos} (hu : X.A.units + 64 < cLine) (he : DE X e m) : DT X (.Compare e [.Eq] [.List [] pos2] pos) (mTest (mEqNil m)) :=
  ⟨pt_mono (pt_cmpR (op_eqD hu) he.pe (pe_lst pa_nil) (nomark _)) fun σ H Q ⟨env, st, Q0, re, rs, h, k⟩ => by
    refine lift_eqNil ⟨env, st, _, re, rs, h, fun d st' v H' ⟨c, e, q⟩ ex r s => ?_⟩
    subst e
    exact ⟨c, r.bl_of, k c st' H' q ex s⟩⟩
/-- xs.pop(i) -/
def oPopAt : MM
  | .ref a, [.int i], st, Q => ∃ xs k y, st a = some (.lst xs) ∧ -(2 ^ 63) ≤ i ∧ i < 2 ^ 63 ∧ seqIndex? i xs.length = some k ∧ xs[k]? = some y ∧ Q y (put st a (.lst (xs.eraseIdx k)))
  | _, _, _, _ => False
theorem RelDs.eraseAt {K : PySem.W.Frag} {H : Hp} : ∀ {ds : List D} {vs : List V} (k : Nat), RelDs K H ds vs → RelDs K H (ds.eraseIdx k) (vs.eraseIdx k)
  | _, _, _, .nil => .nil
  | _, _, 0, .cons _ t => t
  | _, _, k + 1, .cons r t => .cons r (t.eraseAt k)
theorem dm_popAt : DM X "list.pop" oPopAt :=
  ⟨mtr_mono mt_popAt fun x xs H Q ⟨dx, ds, st, Q0, rx, rxs, rs, h, k⟩ => by
    unfold oPopAt at h
    split at h
    · cases rx
      cases rxs with
      | cons ri t =>
        cases t
        cases ri
        obtain ⟨ys, j, y, e, h1, h2, hj, hy, q⟩ := h
        obtain ⟨vs, g, r⟩ := rs _ _ e
        obtain ⟨v, hv, rv⟩ := r.get hy
        have ex : ∀ u, Ext H (upd H _ u) := fun u => upd_mutL g
        exact ⟨_, vs, _, j, v, rfl, rfl, g, h1, h2, by rw [← r.length]; exact hj, hv, k _ _ _ _ q (ex _) (rv.mono (ex _)) (rs.put (ex _) ⟨_, upd_same, (r.eraseAt j).mono (ex _)⟩)⟩
    · exact h.elim⟩
end
/-- a text turned about -/
def revS (z : Str) : Str := ⟨z.cps.toList.reverse.toArray⟩
theorem picked_revS (z : Str) (u : Tok) : sliceMade z u' none none (some (-1, u)) = .str (revS z) := by
  unfold sliceMade slicePicked
  rw [if_neg (by simp)]
  show Made.str ⟨((Builtin.Str.strSliceIndices none none (-1) z.length).filterMap (z.cps[·]?)).toArray⟩ = _
  rw [picked_rev, PySem.W.krv_range, List.filterMap_reverse]
  show Made.str ⟨(((List.range z.cps.size).filterMap (z.cps[·]?)).reverse).toArray⟩ = _
  rw [PySem.W.krv_all]
  rfl
section
variable {X : Cx}
def tRevS (te : TE) : TE := fun σ H Q => te σ H fun x H1 => ∃ z : Str, x = .str z ∧ z.length ≤ sizeLine ∧ Q (.str (revS z)) H1
theorem pe_revS {e : Expr} {te : TE} {k : Nat} {p1 p2 p3 pos : Pos} (he : PE X e te) : PE X (.Subscript e (.Slice none none (some (.UnaryOp .USub (.Constant (.int 1) k p1) p2)) p3) pos) (tRevS te) := by
  refine ⟨fun pins s σ H Q I h => ?_⟩
  refine Subscript_ (thn (he.run pins s σ H _ I h) fun v s1 ⟨x, H1, I1, r1, q1⟩ => ?_)
  obtain ⟨z, ex, hz, q⟩ := q1
  subst ex
  obtain ⟨tok, rfl⟩ : ∃ tok, v = Value.str z tok := r1
  have hst : PO X (some (.UnaryOp .USub (.Constant (.int 1) k p1) p2)) (tPart (tUn (rU fun i => .int (-i)) (tC (.int 1)))) := po_some (pe_un un_neg pe_int)
  refine wpAny_Slice (thn (po_none.run pins s1 σ H1 (fun o H2 => o = none ∧ H2 = H1) I1 ⟨rfl, rfl⟩) fun vl s2 ⟨l, H2, I2, pl, el, e2⟩ => ?_)
  subst el e2
  refine thn (po_none.run pins s2 σ H2 (fun o H3 => o = none ∧ H3 = H2) I2 ⟨rfl, rfl⟩) fun vu s3 ⟨u, H3, I3, pu, eu, e3⟩ => ?_
  subst eu e3
  refine thn (hst.run pins s3 σ H3 (fun o H4 => o = some (-1) ∧ H4 = H3) I3 ⟨1, rfl, -1, rfl, rfl, rfl⟩) fun vs s4 ⟨o, H4, I4, ps, eo, e4⟩ => ?_
  subst eo e4
  cases pl
  cases pu
  cases ps with
  | int _ tk =>
  have I5 : Inv X pins σ H4 { s4 with heap := s4.heap.push { cls := .type "slice", data := .fields #[.none, .none, .int (-1) tk] } } := I4.kept (t' := s4.toks) fun b ob q => Heap.get?_push_of_some _ q
  show wpAny (model X.prog X.w) X.A (subscriptTail e (.Slice none none (some (.UnaryOp .USub (.Constant (.int 1) k p1) p2)) p3) (.str z tok) (.ref s4.heap.objs.size)) (EP X pins σ Q) X.xe { s4 with heap := s4.heap.push { cls := .type "slice", data := .fields #[.none, .none, .int (-1) tk] } }
  refine tail_any (ops := [.str z tok, .ref s4.heap.objs.size]) (typeIs_str _ z tok) (F.slot_str_getitem.lookup) ?_ (by with_unfolding_all rfl)
  refine wpAny_getItem_str_slice (l := none) (u := none) (st := some (-1, tk)) ⟨_, Heap.get?_push_size _ rfl, rfl, rfl⟩ rfl ?_
  rw [picked_revS]
  refine ⟨by show z.cps.toList.reverse.toArray.size ≤ _; rw [List.size_toArray, List.length_reverse, Array.length_toList]; exact hz, ?_⟩
  exact ⟨.str (revS z), H4, I5.tok _, ⟨_, rfl⟩, q⟩
/-- z[::-1], a text -/
def rvsO : D → Sto → DK → Prop
  | .str z, st, Q => z.length ≤ sizeLine ∧ Q (.str (revS z)) st
  | _, _, _ => False
def mRevS (m : ME) : ME := fun env st Q => m env st fun x st1 => rvsO x st1 Q
theorem de_revS {e : Expr} {m : ME} {k : Nat} {p1 p2 p3 pos : Pos} (he : DE X e m) : DE X (.Subscript e (.Slice none none (some (.UnaryOp .USub (.Constant (.int 1) k p1) p2)) p3) pos) (mRevS m) :=
  ⟨pe_mono (pe_revS he.pe) fun σ H Q ⟨env, st, Q0, re, rs, h, k⟩ => lift_in re rs h fun x st1 x' H1 q ex rx re1 rs1 => by
    cases x <;> try exact q.elim
    obtain ⟨hz, q⟩ := q
    cases rx
    exact ⟨_, rfl, hz, k _ _ _ _ q ex (.str _) rs1⟩⟩
end
section
variable {m : ME} {env : Env} {st : Sto} {Q : DK}
theorem mNeNil_a : mNeNil m env st Q = m env st fun x st1 => nilO x st1 fun b => Q (.bl (!b)) st1 := rfl
theorem mEqNil_a : mEqNil m env st Q = m env st fun x st1 => nilO x st1 fun b => Q (.bl b) st1 := rfl
theorem nilO_ref {a : Addr} {K : Bool → Prop} : nilO (.ref a) st K = rdO (st a) fun xs => okPy xs ∧ K xs.isEmpty := rfl
theorem mRevS_a : mRevS m env st Q = m env st fun x st1 => rvsO x st1 Q := rfl
theorem rvsO_str {z : Str} : rvsO (.str z) st Q = (z.length ≤ sizeLine ∧ Q (.str (revS z)) st) := rfl
theorem oPopAt_l {a : Addr} {xs : List D} {i : Nat} {y : D} (h : st a = some (.lst xs)) (hz : xs.length ≤ sizeLine) (hy : xs[i]? = some y) (q : Q y (put st a (.lst (xs.eraseIdx i)))) : oPopAt (.ref a) [.int (i : Nat)] st Q := by
  have hi := (List.getElem?_eq_some_iff.mp hy).1
  rw [szL] at hz
  refine ⟨xs, i, y, h, by omega, by omega, ?_, hy, q⟩
  have e1 : ¬ ((i : Int) < 0) := by omega
  have e2 : (i : Int) < (xs.length : Int) := by omega
  simp [seqIndex?, e1, e2]
theorem okPy_nil : okPy [] := ⟨[], rfl, shaped_nil⟩
end
end L2.DL

namespace L2.DL
open PySem PySem.Spec PyProof.Rows
/-! dict displays with text keys; a module's tuple of texts; tuples turned about; what is never reached -/
/-- {"a": x, ..}: the keys are unlike texts -/
def mDisp (ks : List Str) (m : MA) : ME := fun env st Q => ∀ p, Nf st p → m env (put st p (.dic [])) fun ds st2 => st2 p = some (.dic []) ∧ ds.length = ks.length ∧
  Q (.ref p) (put st2 p (.dic ((ks.map Sum.inr).zip ds)))
def liftP (K : PySem.W.Frag) (ks : List Str) (m : MA) : L2.St → Hp → (List (V × V) → Hp → Prop) → Prop := fun σ H Q' => ∃ env st Q, RelE K H env σ ∧ RelSto K H st ∧ m env st Q ∧
  ∀ ds st' vs H', Q ds st' → Ext H H' → RelDs K H' ds vs → RelSto K H' st' → ds.length = ks.length → Q' ((ks.map V.str).zip vs) H'
structure DPs (X : Cx) (pos : Pos) (keys : List (Option Expr)) (vals : List Expr) (ks : List Str) (m : MA) : Prop where
  trs : ∃ trs, PPs X pos keys vals trs ∧ ∀ σ H (Q' : List (V × V) → Hp → Prop) env st (Q : List D → Sto → Prop), RelE X.K H env σ → RelSto X.K H st → m env st Q →
    (∀ ds st' vs H', Q ds st' → Ext H H' → RelDs X.K H' ds vs → RelSto X.K H' st' → ds.length = ks.length → Q' ((ks.map V.str).zip vs) H') → tPairs trs σ H Q'
section
variable {X : Cx}
theorem dps_nil {pos : Pos} : DPs X pos [] [] [] mNil :=
  ⟨[], pps_nil, fun σ H Q' env st Q re rs h k => k [] st [] H h .refl .nil rs rfl⟩
theorem dps_cons {pos p1 : Pos} {k : Str} {j} {v : Expr} {keys : List (Option Expr)} {vals : List Expr} {ks : List Str} {ma : ME} {mr : MA} (hv : DE X v ma) (hr : DPs X pos keys vals ks mr) :
    DPs X pos (some (.Constant (.str k) j p1) :: keys) (v :: vals) (k :: ks) (mCons ma mr) := by
  obtain ⟨trs, pr, f⟩ := hr.trs
  refine ⟨_, pps_cons pe_str hv.pe pr, fun σ H Q' env st Q re rs h kk => ?_⟩
  refine lift_in re rs h fun x st1 x' H1 q1 e1 rx re1 rs1 => ?_
  refine f _ _ _ env st1 _ re1 rs1 q1 fun ds st2 vs H2 q2 e2 r2 rs2 hl => ?_
  exact kk (x :: ds) st2 (x' :: vs) H2 q2 (e1.trans e2) (.cons (rx.mono e2) r2) rs2 (by rw [List.length_cons, List.length_cons, hl])
theorem merge_app : ∀ (more kvs : List (Key × V)), ((kvs ++ more).map (·.1)).Nodup → mergeK kvs more = kvs ++ more
  | [], kvs, _ => by rw [List.append_nil]; rfl
  | p :: r, kvs, h => by
    have e : putK kvs p.1 p.2 = kvs ++ [p] := by
      have hn : ∀ kv ∈ kvs, kv.1 ≠ p.1 := by
        intro kv hkv e
        rw [List.map_append, List.nodup_append] at h
        exact h.2.2 kv.1 (List.mem_map_of_mem hkv) p.1 (by rw [List.map_cons]; exact List.mem_cons_self ..) e
      unfold putK
      first
        | rw [if_neg (by simpa using hn)]
        | (split
           · rename_i h2
             simp only [List.any_eq_true, decide_eq_true_eq] at h2
             obtain ⟨kv, m, e⟩ := h2
             exact absurd e (hn kv m)
           · rfl)
    show mergeK (putK kvs p.1 p.2) r = _
    rw [e, merge_app r (kvs ++ [p]) (by rw [List.append_assoc]; exact h), List.append_assoc]
    rfl
theorem RelDs.zipK {K : PySem.W.Frag} {H : Hp} : ∀ {ks : List Str} {ds : List D} {vs : List V}, RelDs K H ds vs → RelK K H ((ks.map (Sum.inr (α := Int))).zip ds) ((ks.map Sum.inr).zip vs)
  | [], _, _, _ => .nil
  | _ :: _, _, _, .nil => .nil
  | _ :: _, _, _, .cons r t => .cons r t.zipK
theorem zip_kV : ∀ (ks : List Str) (vs : List V), (ks.map V.str).zip vs = ((ks.map (Sum.inr (α := Int))).zip vs).map (fun kv => (kV kv.1, kv.2))
  | [], _ => rfl
  | _ :: _, [] => rfl
  | k :: ks, v :: vs => by simp only [List.map_cons, List.zip_cons_cons, zip_kV ks vs]; rfl
theorem zip_fst {α β : Type} : ∀ {xs : List α} {ys : List β}, ys.length = xs.length → (xs.zip ys).map (·.1) = xs
  | [], _, _ => rfl
  | _ :: _, [], h => by cases h
  | x :: xs, y :: ys, h => by
    rw [List.zip_cons_cons, List.map_cons, zip_fst (by simpa using h)]
theorem nodup_inr : ∀ {ks : List Str}, ks.Nodup → (ks.map (Sum.inr (α := Int))).Nodup
  | [], _ => by simp
  | k :: ks, h => by
    rw [List.nodup_cons] at h
    rw [List.map_cons, List.nodup_cons]
    refine ⟨fun m => ?_, nodup_inr h.2⟩
    obtain ⟨y, my, e⟩ := List.mem_map.mp m
    cases e
    exact h.1 my
theorem de_disp {pos : Pos} {keys : List (Option Expr)} {vals : List Expr} {ks : List Str} {m : MA} (h : DPs X pos keys vals ks m) (hall : keys.all (·.isSome) = true) (hl : keys.length = vals.length) (h0 : keys ≠ []) (h15 : keys.length ≤ 15)
    (hk : ks.length ≤ 15) (hn : ks.Nodup) : DE X (.Dict keys vals pos) (mDisp ks m) := by
  obtain ⟨trs, pr, f⟩ := h.trs
  refine ⟨pe_mono (pe_disp pr hall hl h0 h15) fun σ H Q ⟨env, st, Q0, re, rs, hm, k⟩ => fun p hp => ?_⟩
  have ex : Ext H (upd H p (.dK [])) := .upd_new hp
  refine f _ _ _ env _ _ (re.mono ex) (rs.put (o := .dic []) ex ⟨[], upd_same, .nil⟩) (hm p (rs.fresh hp)) fun ds st2 vs H2 ⟨hD, hlen, q⟩ e2 r2 rs2 hl2 => ?_
  obtain ⟨ws, gD, rD⟩ := rs2 _ _ hD
  cases rD
  refine ⟨gD, (ks.map Sum.inr).zip vs, zip_kV ks vs, ?_, ?_⟩
  · rw [List.length_zip, List.length_map]; omega
  · have hvl : vs.length = ks.length := by rw [← r2.length]; exact hlen
    rw [merge_app _ [] (by rw [List.nil_append, zip_fst (by rw [List.length_map]; exact hvl)]; exact nodup_inr hn), List.nil_append]
    have ex2 : ∀ u, Ext H2 (upd H2 p u) := fun u => .upd_mut (by rw [gD]; trivial)
    exact k _ _ _ _ q ((ex.trans e2).trans (ex2 _)) (.ref p) (rs2.put (o := .dic ((ks.map Sum.inr).zip ds)) (ex2 _) ⟨_, upd_same, (RelDs.zipK r2).mono (ex2 _)⟩)
/-- a module's tuple of texts -/
theorem de_gtup {x : Str} {pos : Pos} {ns : List Str} (hm : ∃ a, X.mg x = some (.ref a) ∧ ∀ H, SqT X.K H a (ns.map V.str)) (hg : Gl X x := by rfl) (hd : (x == ("__debug__" : Str)) = false := by decide) : DE X (.Name x pos) (mC (.tup (ns.map D.str))) := by
  obtain ⟨a, hm, h⟩ := hm
  exact de_glob (v := .ref a) hg hm rfl (fun H => .tup (h H) (RelDs.of_strs ns)) hd
end
namespace HTr
open HT
section
variable {prog : Program} {w : World} {A : Around} {E : Value → Shared → Prop} {s : Shared}
theorem adjust_back (n : Nat) : Builtin.Slice.sliceAdjust none none (-1) (n : Int) = ((n : Int) - 1, -1) := by
  unfold Builtin.Slice.sliceAdjust
  have h1 : ((-1 : Int) < 0) := by omega
  simp only [h1, if_true]
theorem places_back (n : Nat) : Builtin.Slice.slicePlaces ((n : Int) - 1) (-1) (-1) = n := by
  unfold Builtin.Slice.slicePlaces
  have h1 : ¬ ((-1 : Int) > 0) := by omega
  simp only [h1, if_false]
  by_cases h : (n : Int) - 1 > -1
  · have e : ((n : Int) - 1 - -1 - 1) / (- -1) + 1 = (n : Int) := by
      rw [show (- -1 : Int) = 1 by decide, Int.ediv_one]
      omega
    simp only [h, if_true, e, Int.toNat_natCast]
  · have e : n = 0 := by omega
    subst e
    simp
theorem pick_back (xs : Array Value) : ((List.range xs.size).filterMap fun (m : Nat) => xs[(((xs.size : Int) - 1) + (m : Int) * (-1)).toNat]?).toArray = xs.toList.reverse.toArray := by
  have e : (fun (m : Nat) => xs[(((xs.size : Int) - 1) + (m : Int) * (-1)).toNat]?) = (fun x => xs[x]?) ∘ fun m => xs.size - 1 - m := by
    funext m
    have : (((xs.size : Int) - 1) + (m : Int) * (-1)).toNat = xs.size - 1 - m := by omega
    rw [this]
    rfl
  rw [e, ← List.filterMap_map, PySem.W.krv_range, List.filterMap_reverse]
  have := PySem.W.krv_all xs
  rw [this]
theorem sliceApplied_back {sl : Addr} {vs : Value} {n : Nat} {Q : Int × Int × Nat → Shared → Prop} (hs : s.heap.IsSliceOf sl .none .none vs) (ps : IsPart vs (some (-1)))
    (h : Q ((n : Int) - 1, -1, n) s) : wpAny (model prog w) A (Builtin.Slice.sliceApplied (.ref sl) (pure (n : Int))) Q E s := by
  obtain ⟨os, hos, hcs, hds⟩ := id hs
  unfold Builtin.Slice.sliceApplied Builtin.Slice.sliceFields
  refine wpAny_bind (wpAny_bind (wpAny_field hos hds (x := .none) rfl (wpAny_bind (wpAny_field hos hds (x := .none) rfl (wpAny_bind (wpAny_field hos hds (x := vs) rfl (wpAny_pure ?_)))))))
  refine wpAny_bind (slicePart_ ps ?_)
  show wpAny _ _ (if ((-1 : Int) == 0) = true then _ else _) _ _ s
  rw [if_neg (by decide)]
  refine wpAny_bind (slicePart_ .none (wpAny_bind (slicePart_ .none (wpAny_bind (wpAny_pure ?_)))))
  show wpAny _ _ (match Builtin.Slice.sliceAdjust none none (-1) (n : Int) with | (lo, hi) => pure (lo, (-1 : Int), Builtin.Slice.slicePlaces lo hi (-1))) _ _ s
  rw [adjust_back n]
  show wpAny _ _ (pure ((n : Int) - 1, (-1 : Int), Builtin.Slice.slicePlaces ((n : Int) - 1) (-1) (-1))) _ _ s
  rw [places_back]
  exact wpAny_pure h
theorem getItem_tuple_back {t sl : Addr} {items : Array Value} {vs : Value} {Q : Value → Shared → Prop} (ht : IsTup s.heap t items) (hs : s.heap.IsSliceOf sl .none .none vs) (ps : IsPart vs (some (-1)))
    (h : Q (.ref s.heap.objs.size) { s with heap := s.heap.push { cls := .type "tuple", data := .seq items.toList.reverse.toArray } })
    (hsz : items.size ≤ sizeLine) : wpAny (model prog w) A (getItem (.ref t) (.ref sl)) Q E s := by
  have htake : sizeOk (.seq items.toList.reverse.toArray) := by
    show items.toList.reverse.toArray.size ≤ sizeLine
    rw [List.size_toArray, List.length_reverse, Array.length_toList]
    exact hsz
  obtain ⟨os, hos, hcs, hds⟩ := id hs
  have hTs : s.TypeIs (.ref sl) "slice" := ⟨os, hos, hcs⟩
  unfold getItem
  try with_reducible refine wpAny_holding ?_
  first | refine wpAny_bind (wpAny_pure ?_) | skip
  refine wpAny_bind (wpAny_sequenceKey ht.typeIs (by decide) ?_)
  refine wpAny_bind (wpAny_callSpecial?_slot (name := Str.ofString "__getitem__") ht.typeIs PyProof.Rows.slot_tuple_getitem
    (wpAny_call_entry PyProof.Rows.slot_tuple_getitem ht.typeIs entry_tuple_getitem ?_ (args_tuple_getitem _ _)))
  show wpAny _ _ (Builtin.Tuple.tupleItemsOf (.ref t) >>= _) _ _ s
  refine wpAny_bind (tupleItemsOf_ ht ?_)
  refine wpAny_bind (wpAny_typeOf hTs ?_)
  rw [if_pos (by decide)]
  refine wpAny_bind (sliceApplied_back hs ps ?_)
  have hno : ¬ ((((items.size : Int) - 1) == 0 && (-1 : Int) == 1 && items.size == items.size) = true) := by
    intro q
    rw [Bool.and_eq_true, Bool.and_eq_true] at q
    have q2 : (-1 : Int) = 1 := eq_of_beq q.1.2
    omega
  show wpAny _ _ (if (((items.size : Int) - 1) == 0 && (-1 : Int) == 1 && items.size == items.size) = true then _ else _) _ _ s
  rw [if_neg hno, pick_back]
  first
    | exact wpAny_bind (m := Builtin.Tuple.tupleExact _) (wpAny_newObj_type (wpAny_pure ⟨_, rfl, wpAny_pure h⟩) htake)
    | exact wpAny_bind (m := Builtin.Tuple.tupleExact _) (wpAny_newObj_type (wpAny_bind (wpAny_pure (wpAny_pure ⟨_, rfl, wpAny_pure h⟩))) htake)
    | exact wpAny_bind (wpAny_bind (m := Builtin.Tuple.tupleExact _) (wpAny_newObj_type (wpAny_pure (wpAny_pure ⟨_, rfl, wpAny_pure h⟩)) htake))
    | exact wpAny_bind (wpAny_bind (m := Builtin.Tuple.tupleExact _) (wpAny_newObj_type (wpAny_pure ⟨_, rfl, wpAny_pure h⟩) htake))
end
end HTr
section
variable {X : Cx}
def tRevT (K : PySem.W.Frag) (te : TE) : TE := fun σ H Q => te σ H fun x H1 => ∃ a xs, x = .ref a ∧ SqT K H1 a xs ∧ ∀ p, H1 p = none → Q (.ref p) (upd H1 p (.tup xs.reverse))
theorem pe_revT {e : Expr} {te : TE} {k : Nat} {p1 p2 p3 pos : Pos} (he : PE X e te) : PE X (.Subscript e (.Slice none none (some (.UnaryOp .USub (.Constant (.int 1) k p1) p2)) p3) pos) (tRevT X.K te) := by
  refine ⟨fun pins s σ H Q I h => ?_⟩
  refine Subscript_ (thn (he.run pins s σ H _ I h) fun v s1 ⟨x, H1, I1, r1, q1⟩ => ?_)
  obtain ⟨a, xs, ex, hx, q⟩ := q1
  subst ex
  cases r1
  have hst : PO X (some (.UnaryOp .USub (.Constant (.int 1) k p1) p2)) (tPart (tUn (rU fun i => .int (-i)) (tC (.int 1)))) := po_some (pe_un un_neg pe_int)
  refine wpAny_Slice (thn (po_none.run pins s1 σ H1 (fun o H2 => o = none ∧ H2 = H1) I1 ⟨rfl, rfl⟩) fun vl s2 ⟨l, H2, I2, pl, el, e2⟩ => ?_)
  subst el e2
  refine thn (po_none.run pins s2 σ H2 (fun o H3 => o = none ∧ H3 = H2) I2 ⟨rfl, rfl⟩) fun vu s3 ⟨u, H3, I3, pu, eu, e3⟩ => ?_
  subst eu e3
  refine thn (hst.run pins s3 σ H3 (fun o H4 => o = some (-1) ∧ H4 = H3) I3 ⟨1, rfl, -1, rfl, rfl, rfl⟩) fun vs s4 ⟨o, H4, I4, ps, eo, e4⟩ => ?_
  subst eo e4
  cases pl
  cases pu
  have I5 : Inv X pins σ H4 { s4 with heap := s4.heap.push { cls := .type "slice", data := .fields #[.none, .none, vs] } } := I4.kept (t' := s4.toks) fun b ob q => Heap.get?_push_of_some _ q
  obtain ⟨its, r, ht, hz⟩ := I5.tuple hx
  have hlen := r.length
  show wpAny (model X.prog X.w) X.A (subscriptTail e (.Slice none none (some (.UnaryOp .USub (.Constant (.int 1) k p1) p2)) p3) (.ref a) (.ref s4.heap.objs.size)) (EP X pins σ Q) X.xe { s4 with heap := s4.heap.push { cls := .type "slice", data := .fields #[.none, .none, vs] } }
  refine tail_any (ops := [.ref a, .ref s4.heap.objs.size]) ht.typeIs (PyProof.Rows.slot_tuple_getitem.lookup) ?_ (by with_unfolding_all rfl)
  refine HTr.getItem_tuple_back ht (Heap.IsSliceOf.new _ .none .none vs) ps ?_ (by rw [List.size_toArray]; omega)
  refine ⟨.ref _, _, I5.laid (t' := s4.toks) (o := .tup xs.reverse) (fun b ob q => Heap.get?_push_of_some _ q) (Nat.le_refl _) ?_, rfl, q _ (I5.hok.fresh (Nat.le_refl _))⟩
  refine ⟨by rw [List.length_reverse]; exact hz, _, r.reverse, ?_⟩
  exact IsTup.new _ _
/-- t[::-1], a tuple -/
def rvtO : D → Sto → DK → Prop
  | .tup xs, st, Q => Q (.tup xs.reverse) st
  | _, _, _ => False
def mRevT (m : ME) : ME := fun env st Q => m env st fun x st1 => rvtO x st1 Q
theorem rvtO_tup {xs : List D} {st : Sto} {Q : DK} : rvtO (.tup xs) st Q = Q (.tup xs.reverse) st := rfl
theorem mRevT_a {m : ME} {env : Env} {st : Sto} {Q : DK} : mRevT m env st Q = m env st fun x st1 => rvtO x st1 Q := rfl
theorem de_revT {e : Expr} {m : ME} {k : Nat} {p1 p2 p3 pos : Pos} (he : DE X e m) : DE X (.Subscript e (.Slice none none (some (.UnaryOp .USub (.Constant (.int 1) k p1) p2)) p3) pos) (mRevT m) :=
  ⟨pe_mono (pe_revT he.pe) fun σ H Q ⟨env, st, Q0, re, rs, h, k⟩ => lift_in re rs h fun x st1 x' H1 q ex rx re1 rs1 => by
    cases x <;> try exact q.elim
    rename_i ds
    obtain ⟨a, vs, rfl, g, r⟩ := rx.tup_of
    refine ⟨a, vs, rfl, g, fun p hp => ?_⟩
    have ex2 : Ext H1 (upd H1 p (.tup vs.reverse)) := .upd_new hp
    exact k _ _ _ _ q (ex.trans ex2) (.tup (.of upd_same) (r.reverse.mono ex2)) (rs1.new hp)⟩
theorem mDisp_a {ks : List Str} {m : MA} {env : Env} {st : Sto} {Q : DK} : mDisp ks m env st Q = ∀ p, Nf st p → m env (put st p (.dic [])) fun ds st2 => st2 p = some (.dic []) ∧ ds.length = ks.length ∧ Q (.ref p) (put st2 p (.dic ((ks.map Sum.inr).zip ds))) := rfl
end
/-- what is never reached -/
def sNever : MS := fun _ _ _ => False
theorem ds_never {X : Cx} {s : Stmt} : DS X s sNever := ⟨⟨fun pins s σ H D I ⟨_, _, _, _, _, h, _⟩ => h.elim⟩⟩
theorem dss_never {X : Cx} {s : List Stmt} : DSs X s sNever := ⟨⟨fun pins s σ H D I ⟨_, _, _, _, _, h, _⟩ => h.elim⟩⟩
def mNever : ME := fun _ _ _ => False
theorem de_never {X : Cx} {e : Expr} : DE X e mNever := ⟨⟨fun pins s σ H Q I ⟨_, _, _, _, _, h, _⟩ => h.elim⟩⟩
theorem sNever_a {D : DEnds} {env : Env} {st : Sto} : sNever D env st = False := rfl
end L2.DL

namespace L2.DL
open PySem PySem.Spec PyProof.Rows
local macro_rules | `(tactic| walk_at "s") => `(tactic| try simp only [sqAsg_a, sqDrop_a, sqPar_a, sqPar3_a, sqRet_a, sqNext_a, sqSeq_a, sNext_a, sBreak_a, sCont_a, sDrop_a, sRet_a, sRetN_a, sIf_a, sAsg_a, sPar_a, sPar3_a, mVar_a, vAt_a, mC_a, mBin_a, mTest_a, bAt_a, mAnd_a, mOr_a, mNot_a, mYes_a, mAndV_a, mOrV_a, mNotV_a, mIf_a, mNil_a, mCons_a, mTup_a, mLst_a, mCall_a, mCallK_a, mMeth_a, mSl_a, mNoPart_a, iAt_a, mPart_a, mIsi_b, tysO_some, List.any_cons, List.any_nil, Bool.or_false, Bool.false_or, Bool.or_true, Bool.true_or, Int.natCast_pos, gN_a, gTup_a, gCons_a, gNil_a, gSub_a, sFor_a, mLc_a, mDc_a, wSeq_a, sqO_tup, sqO_str, sqO_ref, wRng1_a, mRev_a, revO_ref, List.getD_cons_zero, List.getD_cons_succ, ite_self, List.set_cons_zero, List.set_cons_succ, List.getElem?_cons_zero, List.getElem?_cons_succ, oAdd_int, oAdd_str, oAdd_tup, oAdd_ref, oSub_int, oMul_int, oDiv_int, oMod_int, oPow_int, oLt_int, oLe_int, oGt_int, oGe_int, oIs_nn, oIs_bn, oIs_in, oIs_sn, oIs_tn, oIs_rn, oIs_bb, oIs_nb, oIs_ib, oIs_sb, oIs_tb, oIs_rb, oIsi_int, oIsi_str, oIsi_bool, oIsi_tuple, oIsi_list, oIsi_dict, tyO_some, tyD_non, tyD_bl, tyD_int, tyD_str, tyD_tup, isi_facts, oEq_int, oNe_int, oEq_str, oNe_str, oSl_tup, oSl_str, oSl_ref, oLen_tup, oLen_str, oLen_ref, oAbs_int, oInt_int, oInt_bl, oMax_int, oMin_int, oTuple_tup, oTuple_ref, oList_tup, oList_str, oList_ref, oIx_tupE, oIx_ref, oAppend_ref, oPop_ref, oExtend_tupE, oSet_ref, isL_ref, isS_str, vO_some, ixO_lst, ixO_dicI, ixO_dicS, ixO_rodI, ixO_rodS, lsO_lst, rdO_lst, rdO_rol, lenO_lst, lenO_dic, lenO_rol, addO_lst, setO_lst, setO_dicI, setO_dicS, atI_zero, atI_one, atI_two, atI_end, startE, wipeE, List.map_cons, List.map_nil, List.length_cons, List.length_nil, List.replicate, List.cons_append, List.nil_append, Nat.reduceAdd, Nat.reduceSub, List.replicate_succ, List.replicate_zero, put_same, Nat.zero_le, Int.reduceLT, Int.reduceLE, Nat.reduceLT, Nat.reduceLeDiff, and_true, true_and, Bool.false_eq_true, ↓reduceIte, Bool.not_true, Bool.not_false, decide_true, decide_false, *])
local macro_rules | `(tactic| walk_at "i") => `(tactic| try simp only [sqIf_a, sqAsg_a, sqDrop_a, sqPar_a, sqPar3_a, sqRet_a, sqNext_a, sqSeq_a, sNext_a, sBreak_a, sCont_a, sDrop_a, sRet_a, sRetN_a, sIf_a, sAsg_a, sPar_a, sPar3_a, mVar_a, vAt_a, mC_a, mBin_a, mTest_a, bAt_a, mAnd_a, mOr_a, mNot_a, mYes_a, mAndV_a, mOrV_a, mNotV_a, mIf_a, mNil_a, mCons_a, mTup_a, mLst_a, mCall_a, mCallK_a, mMeth_a, mSl_a, mNoPart_a, iAt_a, mPart_a, mIsi_b, tysO_some, List.any_cons, List.any_nil, Bool.or_false, Bool.false_or, Bool.or_true, Bool.true_or, Int.natCast_pos, gN_a, gTup_a, gCons_a, gNil_a, gSub_a, sFor_a, mLc_a, mDc_a, wSeq_a, sqO_tup, sqO_str, sqO_ref, wRng1_a, mRev_a, revO_ref, List.getD_cons_zero, List.getD_cons_succ, ite_self, List.set_cons_zero, List.set_cons_succ, List.getElem?_cons_zero, List.getElem?_cons_succ, oAdd_int, oAdd_str, oAdd_tup, oAdd_ref, oSub_int, oMul_int, oDiv_int, oMod_int, oPow_int, oLt_int, oLe_int, oGt_int, oGe_int, oIs_nn, oIs_bn, oIs_in, oIs_sn, oIs_tn, oIs_rn, oIs_bb, oIs_nb, oIs_ib, oIs_sb, oIs_tb, oIs_rb, oIsi_int, oIsi_str, oIsi_bool, oIsi_tuple, oIsi_list, oIsi_dict, tyO_some, tyD_non, tyD_bl, tyD_int, tyD_str, tyD_tup, isi_facts, oEq_int, oNe_int, oEq_str, oNe_str, oSl_tup, oSl_str, oSl_ref, oLen_tup, oLen_str, oLen_ref, oAbs_int, oInt_int, oInt_bl, oMax_int, oMin_int, oTuple_tup, oTuple_ref, oList_tup, oList_str, oList_ref, oIx_tupE, oIx_ref, oAppend_ref, oPop_ref, oExtend_tupE, oSet_ref, isL_ref, isS_str, vO_some, ixO_lst, ixO_dicI, ixO_dicS, ixO_rodI, ixO_rodS, lsO_lst, rdO_lst, rdO_rol, lenO_lst, lenO_dic, lenO_rol, addO_lst, setO_lst, setO_dicI, setO_dicS, atI_zero, atI_one, atI_two, atI_end, startE, wipeE, List.map_cons, List.map_nil, List.length_cons, List.length_nil, List.replicate, List.cons_append, List.nil_append, Nat.reduceAdd, Nat.reduceSub, List.replicate_succ, List.replicate_zero, put_same, Nat.zero_le, Int.reduceLT, Int.reduceLE, Nat.reduceLT, Nat.reduceLeDiff, and_true, true_and, Bool.false_eq_true, ↓reduceIte, Bool.not_true, Bool.not_false, decide_true, decide_false, *])

/-! ### what the defs at the head of the text promise -/
def S_law_deal : DSp := fun vs st Q => ∃ (a : Addr) (ns : List Int) (s : Int), vs = [.ref a, .int s] ∧ st a = some (.rol (ns.map D.int)) ∧ 0 ≤ s ∧ s ≤ 1000 ∧ ∀ n m st', Deal st' n m → Q (.ref n) st'
def S_law_any : DSp := fun vs st Q => ∃ (n m : Addr) (b : Int), vs = [.ref n, .int b] ∧ Deal st n m ∧ 0 < b ∧ b < 1000000000 ∧ ∀ k st', 0 ≤ k → k < b → Up n m st st' → Q (.int k) st'
/-- _law_deal(script, salt): 0 script 1 salt 2 most 3 cells 4 mix 5 cell -/
def t_law_deal : MS := sSeq (sAsg (mBin oMul (mBin oMul (mBin oMul (mBin oMul (mBin oMul (mBin oPow (mC (.int 10)) (mC (.int 64))) (mBin oPow (mC (.int 10)) (mC (.int 64)))) (mBin oPow (mC (.int 10)) (mC (.int 64)))) (mBin oPow (mC (.int 10)) (mC (.int 64)))) (mBin oPow (mC (.int 10)) (mC (.int 64)))) (mBin oPow (mC (.int 10)) (mC (.int 64)))) (gN 2))
    (sSeq (sAsg (mLc (wSeq (mSl (mVar 0) (mNoPart) (mPart (mC (.int 63))))) (gN 5) (mYes) (mBin oMod (mCall oInt (mCons (mCall oAbs (mCons (mCall oInt (mCons (mVar 5) (mNil))) (mNil))) (mNil))) (mVar 2)) [5]) (gN 3))
    (sSeq (sAsg (mBin oAdd (mC (.int 70001)) (mBin oMul (mC (.int 7919)) (mVar 1))) (gN 4))
    (sSeq (sFor (wSeq (mVar 3)) (gN 5) (sAsg (mBin oMod (mCall oInt (mCons (mBin oAdd (mBin oAdd (mBin oMul (mVar 4) (mC (.int 69621))) (mBin oMod (mCall oInt (mCons (mVar 5) (mNil))) (mC (.int 2147483563)))) (mC (.int 23))) (mNil))) (mC (.int 2147483647))) (gN 4)))
    (sRet (mLst (mCons (mRev (mLc (wSeq (mVar 3)) (gN 5) (mTest (mBin oGe (mVar 5) (mBin oPow (mC (.int 10)) (mC (.int 18))))) (mVar 5) [5])) (mCons (mVar 4) (mNil))))))))
/-- _law_any(deal, bound): 0 deal 1 bound 2 rest -/
def t_law_any : MS := sSeq (sWhile (mAnd (mTest (mBin oGt (mCall oLen (mCons (mBin oIx (mVar 0) (mC (.int 0))) (mNil))) (mC (.int 0)))) (mTest (mBin oEq (mBin oIx (mBin oIx (mVar 0) (mC (.int 0))) (mC (.int (-1)))) (mC (.int 0))))) (sDrop (mMeth isL oPop (mBin oIx (mVar 0) (mC (.int 0))) mNil)))
    (sSeq (sIf (mTest (mBin oGt (mCall oLen (mCons (mBin oIx (mVar 0) (mC (.int 0))) (mNil))) (mC (.int 0)))) (sSeq (sAsg (mCall oInt (mCons (mMeth isL oPop (mBin oIx (mVar 0) (mC (.int 0))) mNil) (mNil))) (gN 2))
    (sSeq (sDrop (mMeth isL oAppend (mBin oIx (mVar 0) (mC (.int 0))) (mCons (mBin oDiv (mVar 2) (mVar 1)) (mNil))))
    (sRet (mBin oMod (mVar 2) (mVar 1))))) (sNext))
    (sSeq (sAsg (mBin oMod (mCall oInt (mCons (mBin oAdd (mBin oMul (mBin oIx (mVar 0) (mC (.int 1))) (mC (.int 48271))) (mC (.int 31))) (mNil))) (mC (.int 2147483647))) (gSub (mVar 0) (mC (.int 1)) oSet))
    (sRet (mBin oMod (mCall oInt (mCons (mBin oDiv (mBin oIx (mVar 0) (mC (.int 1))) (mC (.int 64))) (mNil))) (mVar 1)))))
/-- what a draw leaves -/
theorem DealAt.draw {st : Sto} {n m : Addr} {cells cells' : List Int} {mix : Int} (h : DealAt st n m cells mix) (nn : ∀ c ∈ cells', 0 ≤ c) (sz : cells'.length ≤ 63) : DealAt (put st m (.lst (cells'.map D.int))) n m cells' mix :=
  ⟨by rw [put_ne h.ne]; exact h.ln, put_same, nn, h.m0, h.m1, sz⟩
theorem DealAt.remix {st : Sto} {n m : Addr} {cells : List Int} {mix mix' : Int} (h : DealAt st n m cells mix) (h0 : 0 ≤ mix') (h1 : mix' < 2147483647) : DealAt (put st n (.lst [.ref m, .int mix'])) n m cells mix' :=
  ⟨put_same, by rw [put_ne h.ne.symm]; exact h.lm, h.nn, h0, h1, h.sz⟩
theorem Up.draw {st st' : Sto} {n m a : Addr} {o : Ob} (u : Up n m st st') (ha : a = n ∨ a = m) (d : Deal (DL.put st' a o) n m) : Up n m st (DL.put st' a o) :=
  ⟨fun x v h1 h2 hn e => by
    rw [put_ne (by rcases ha with rfl | rfl <;> assumption)]
    exact u.keep x v h1 h2 hn e, d⟩
theorem kp_law_any : Keeps 2 3 S_law_any t_law_any := by
  refine ⟨fun ds st Q ⟨n, m, b, e, _⟩ => by rw [e]; rfl, fun ds st Q ⟨n, m, b, e, hd, b0, b1, k⟩ => ?_⟩
  subst e
  unfold t_law_any
  obtain ⟨cells0, mix0, hd0⟩ := hd
  refine sSeq_i (fun env st' => env = [some (D.ref n), some (D.int b), none] ∧ Up n m st st') (fun nx hx => ?_) fun env st1 ⟨e, hu⟩ => ?_
  · refine ⟨fun j env st' => env = [some (D.ref n), some (D.int b), none] ∧ ∃ cells mix, DealAt st' n m cells mix ∧ cells.length = j ∧ Up n m st st', ⟨_, rfl, _, _, hd0, rfl, Up.refl ⟨_, _, hd0⟩⟩, ?_⟩
    clear hd0 cells0 mix0 k
    rintro j env st1 ⟨rfl, cells, mix, hd1, hj, hu⟩
    have ln := hd1.ln
    have lm := hd1.lm
    have hx1 := hx _ _ ⟨rfl, hu⟩
    rcases List.eq_nil_or_concat cells with rfl | ⟨l, c, rfl⟩
    · walk_at "s"
    · rw [List.concat_eq_append] at *
      have e1 : (List.map D.int (l ++ [c])).getLast? = some (.int c) := by simp
      have e2 : (List.map D.int (l ++ [c])).dropLast = l.map D.int := by simp
      have e3 : 0 < (List.map D.int (l ++ [c])).length := by simp
      have hd2 : DealAt (put st1 m (.lst (l.map D.int))) n m l mix := hd1.draw (fun c' hc => hd1.nn c' (List.mem_append_left _ hc)) (by have := hd1.sz; rw [List.length_append] at this; omega)
      have hn : Up n m st (put st1 m (.lst (l.map D.int))) := hu.draw (.inr rfl) ⟨l, mix, hd2⟩
      have hq : ∃ m', m' < j ∧ ∃ cells mix, DealAt (put st1 m (.lst (l.map D.int))) n m cells mix ∧ cells.length = m' ∧ Up n m st (put st1 m (.lst (l.map D.int))) :=
        ⟨l.length, by rw [← hj]; simp, l, mix, hd2, rfl, hn⟩
      clear hx
      walk_at "s"
      by_cases hc : c = 0
      · subst hc
        simp only [decide_true, if_true]
        obtain ⟨m', h1, cl, mx, h2, h3, h4⟩ := hq
        exact ⟨m', h1, cl, mx, h2, h3⟩
      · simp [hc]
  · subst e
    obtain ⟨cells, mix, hd1⟩ := hu.deal
    have ln := hd1.ln
    have lm := hd1.lm
    rw [sqIf_a]
    have q1 := hd1.m0
    have q2 := hd1.m1
    rcases List.eq_nil_or_concat cells with rfl | ⟨l, c, rfl⟩
    · have w1 : CMulW mix 48271 := wide_mul (a := 31) (b := 16) (by omega) (by omega) (by omega) (by omega) (by omega)
      have w2 : CDivW ((mix * 48271 + 31) % 2147483647) 64 := wide_div (b := 7) (by omega) (by omega) (by omega) (by omega)
      have e5 : ixN 2 1 = some 1 := by decide
      walk_at "s"
      refine ⟨_, rfl, ?_⟩
      walk_at "s"
      refine endsOf_i (k _ _ (Int.emod_nonneg _ (by omega)) (Int.emod_lt_of_pos _ b0) (hu.draw (.inl rfl) ⟨[], _, hd1.remix (by omega) (by omega)⟩))
    · rw [List.concat_eq_append] at *
      have e1 : (List.map D.int (l ++ [c])).getLast? = some (.int c) := by simp
      have e2 : (List.map D.int (l ++ [c])).dropLast = l.map D.int := by simp
      have e3 : 0 < (List.map D.int (l ++ [c])).length := by simp
      have c0 := hd1.nn c (by simp)
      have sz := hd1.sz
      have e4 : put st1 m (.lst (l.map D.int)) n = some (.lst [.ref m, .int mix]) := by rw [put_ne hd1.ne]; exact hd1.ln
      have w1 : CDivW c b := wide_div (b := 30) b0 (by omega) (by omega) (by omega)
      have w3 : (l.map D.int).length < sizeLine := by
        rw [List.length_append] at sz
        rw [List.length_map]
        have : sizeLine = 16777216 := rfl
        omega
      walk_at "s"
      have e6 : l.map D.int ++ [D.int (c / b)] = (l ++ [c / b]).map D.int := by simp
      rw [put_put, e6]
      refine endsOf_i (k _ _ (Int.emod_nonneg _ (by omega)) (Int.emod_lt_of_pos _ b0) (hu.draw (.inr rfl) ⟨_, _, hd1.draw (cells' := l ++ [c / b]) (fun c' hc => ?_) (by simpa using sz)⟩))
      rcases List.mem_append.mp hc with hc | hc
      · exact hd1.nn c' (List.mem_append_left _ hc)
      · rw [List.mem_singleton.mp hc]
        exact Int.ediv_nonneg c0 (by omega)
/-- a list or tuple apart from the deal -/
def sq (st : Sto) (n m : Addr) : D → List D → Prop
  | .tup ys, xs => ys = xs
  | .ref a, xs => a ≠ n ∧ a ≠ m ∧ st a = some (.lst xs)
  | .str z, xs => z.length ≤ sizeLine ∧ signsD z = xs
  | _, _ => False
theorem signsD_len (z : Str) : (signsD z).length = z.length := by
  unfold signsD
  rw [List.length_map, Array.length_toList]
  rfl
theorem atI_signs (z : Str) (i : Int) : atI (signsD z) i = (atI z.cps.toList i).map fun c => D.str ⟨#[c]⟩ := by
  unfold signsD atI
  rw [List.length_map]
  cases ixN z.cps.toList.length i with
  | none => rfl
  | some j => rw [Option.bind_some, Option.bind_some, List.getElem?_map]
theorem oIx_strO {z : Str} {i : Int} {st : Sto} {Q : DK} (hz : z.length ≤ sizeLine) : oIx (.str z) (.int i) st Q = vO (atI (signsD z) i) st Q := by
  rw [atI_signs]
  show (z.length ≤ sizeLine ∧ ∃ c, atI z.cps.toList i = some c ∧ Q (.str ⟨#[c]⟩) st) = _
  cases e : atI z.cps.toList i with
  | none => simp [vO]
  | some c => simp [vO, hz]
theorem sq.up {st st' : Sto} {n m : Addr} {x : D} {xs : List D} (h : sq st n m x xs) (u : Up n m st st') : sq st' n m x xs := by
  cases x <;> try exact h
  exact ⟨h.1, h.2.1, u.keep _ _ h.1 h.2.1 trivial h.2.2⟩
theorem sq.len {st : Sto} {n m : Addr} {x : D} {xs : List D} {Q : DK} (h : sq st n m x xs) : oLen [x] st Q = Q (.int xs.length) st := by
  cases x <;> try exact h.elim
  · obtain ⟨h1, rfl⟩ := h
    rw [oLen_str, signsD_len]
    simp [h1]
  · rw [oLen_ref, h.2.2]; rfl
  · have e : _ = xs := h
    rw [oLen_tup, e]
theorem sq.ix {st : Sto} {n m : Addr} {x : D} {xs : List D} {i : Int} {Q : DK} (h : sq st n m x xs) : oIx x (.int i) st Q = vO (atI xs i) st Q := by
  cases x <;> try exact h.elim
  · obtain ⟨h1, rfl⟩ := h
    exact oIx_strO h1
  · rw [oIx_ref, h.2.2]; rfl
  · have e : _ = xs := h
    rw [oIx_tupE, e]
def S_law_of : DSp := fun vs st Q => ∃ (n m : Addr) (x : D) (xs : List D), vs = [.ref n, x] ∧ Deal st n m ∧ sq st n m x xs ∧ 0 < xs.length ∧ xs.length < 1000000 ∧ ∀ d st', d ∈ xs → Up n m st st' → Q d st'
def S_law_is_kind : DSp := fun vs st Q => ∃ d, vs = [d, d] ∧ flatD d = true ∧ Q (.bl true) st
/-- _law_of(deal, some): 0 deal 1 some -/
def t_law_of : MS := sRet (mBin oIx (mVar 1) (mCall S_law_any (mCons (mVar 0) (mCons (mCall oLen (mCons (mVar 1) (mNil))) (mNil)))))
theorem kp_law_of : Keeps 2 2 S_law_of t_law_of := by
  refine ⟨fun ds st Q ⟨n, m, x, xs, e, _⟩ => by rw [e]; rfl, fun ds st Q ⟨n, m, x, xs, e, hd, hs, l0, l1, k⟩ => ?_⟩
  subst e
  unfold t_law_of
  have e1 := fun Q => hs.len (Q := Q)
  walk_at "s"
  refine ⟨n, m, _, rfl, hd, by omega, by omega, fun i st' h0 h1 u => ?_⟩
  show oIx x (.int i) st' _
  rw [(hs.up u).ix]
  obtain ⟨j, rfl⟩ : ∃ j : Nat, i = j := ⟨i.toNat, by omega⟩
  have hj : j < xs.length := by omega
  rw [atI_ofNat, List.getElem?_eq_getElem hj]
  exact endsOf_i (k _ _ (List.getElem_mem hj) u)
/-- _law_is_kind(told, due): 0 told 1 due -/
def t_law_is_kind : MS := sSeq (sIf (mTest (mBin oIs (mVar 1) (mC .non))) (sRet (mBin oIs (mVar 0) (mC .non))) (sNext))
    (sSeq (sIf (mOr (mTest (mBin oIs (mVar 1) (mC (.bl true)))) (mTest (mBin oIs (mVar 1) (mC (.bl false))))) (sRet (mIf (mTest (mVar 1)) (mBin oIs (mVar 0) (mC (.bl true))) (mBin oIs (mVar 0) (mC (.bl false))))) (sNext))
    (sSeq (sIf (mTest (mCall oIsi (mCons (mVar 1) (mCons (mC (.ty "str")) (mNil))))) (sRet (mAndV (mCall oIsi (mCons (mVar 0) (mCons (mC (.ty "str")) (mNil)))) (mBin oEq (mVar 0) (mVar 1)))) (sNext))
    (sRet (mAndV (mCall oIsi (mCons (mVar 0) (mCons (mC (.ty "int")) (mNil)))) (mAndV (mNotV (mCall oIsi (mCons (mVar 0) (mCons (mC (.ty "bool")) (mNil))))) (mBin oEq (mVar 0) (mVar 1)))))))
theorem kp_law_is_kind : Keeps 2 2 S_law_is_kind t_law_is_kind := by
  refine ⟨fun ds st Q ⟨d, e, _⟩ => by rw [e]; rfl, fun ds st Q ⟨d, e, hf, k⟩ => ?_⟩
  subst e
  have q : (endsOf Q).rt (.bl true) st := endsOf_i k
  unfold t_law_is_kind
  cases d with
  | non => walk_at "i"
  | bl b => cases b <;> walk_at "i"
  | int b => walk_at "i"
  | str b => walk_at "i"
  | _ => cases hf
/-- plain data: no lists, no dicts -/
def datD : D → Bool
  | .non => true
  | .bl _ => true
  | .int _ => true
  | .str _ => true
  | .tup xs => datDs xs
  | _ => false
where datDs : List D → Bool
  | [] => true
  | x :: xs => datD x && datDs xs
def wD : D → Nat
  | .tup xs => 1 + wDs xs
  | _ => 1
where wDs : List D → Nat
  | [] => 0
  | x :: xs => wD x + wDs xs
theorem wD_pos (d : D) : 0 < wD d := by cases d <;> simp [wD] <;> omega
theorem datDs_all : ∀ {xs : List D}, datD.datDs xs = true → ∀ d ∈ xs, datD d = true
  | [], _, _, h => by cases h
  | x :: xs, e, d, h => by
    rw [datD.datDs, Bool.and_eq_true] at e
    rcases List.mem_cons.mp h with rfl | h
    · exact e.1
    · exact datDs_all e.2 d h
theorem datDs_of : ∀ {xs : List D}, (∀ d ∈ xs, datD d = true) → datD.datDs xs = true
  | [], _ => rfl
  | x :: xs, h => by
    rw [datD.datDs, Bool.and_eq_true]
    exact ⟨h x (List.mem_cons_self ..), datDs_of fun d hd => h d (List.mem_cons_of_mem _ hd)⟩
theorem wDs_append : ∀ (xs ys : List D), wD.wDs (xs ++ ys) = wD.wDs xs + wD.wDs ys
  | [], _ => by simp [wD.wDs]
  | x :: xs, ys => by rw [List.cons_append, wD.wDs, wD.wDs, wDs_append xs ys]; omega
theorem wDs_len : ∀ (xs : List D), xs.length ≤ wD.wDs xs
  | [] => Nat.le_refl _
  | x :: xs => by
    have := wDs_len xs
    have := wD_pos x
    rw [List.length_cons, wD.wDs]
    omega
def S_law_same : DSp := fun vs st Q => ∃ d, vs = [d, d] ∧ datD d = true ∧ wD d ≤ 10000000 ∧ ∀ st', Keep st st' → Q (.bl true) st'
/-- a thing twice -/
def twice (d : D) : D := .tup [d, d]
/-- _law_same(told, due): 0 told 1 due 2 todo 3 one 4 other 5 at -/
def t_law_same : MS := sSeq (sAsg (mLst (mCons (mTup (mCons (mVar 0) (mCons (mVar 1) (mNil)))) (mNil))) (gN 2))
    (sSeq (sWhile (mTest (mBin oGt (mCall oLen (mCons (mVar 2) (mNil))) (mC (.int 0)))) (sSeq (sAsg (mMeth isL oPop (mVar 2) mNil) (gTup 2 (gCons (gN 3) (gCons (gN 4) (gNil)))))
    (sIf (mTest (mCall oIsi (mCons (mVar 4) (mCons (mC (.ty "tuple")) (mNil))))) (sSeq (sIf (mOr (mNot (mTest (mCall oIsi (mCons (mVar 3) (mCons (mC (.ty "tuple")) (mNil)))))) (mTest (mBin oNe (mCall oLen (mCons (mVar 3) (mNil))) (mCall oLen (mCons (mVar 4) (mNil)))))) (sRet (mC (.bl false))) (sNext))
    (sFor (wRng1 (mCall oLen (mCons (mVar 4) (mNil)))) (gN 5) (sDrop (mMeth isL oAppend (mVar 2) (mCons (mTup (mCons (mBin oIx (mVar 3) (mVar 5)) (mCons (mBin oIx (mVar 4) (mVar 5)) (mNil)))) (mNil)))))) (sIf (mOr (mTest (mIsi ["tuple", "list", "dict"] (mVar 3))) (mNot (mTest (mCall S_law_is_kind (mCons (mVar 3) (mCons (mVar 4) (mNil))))))) (sRet (mC (.bl false))) (sNext)))))
    (sRet (mC (.bl true))))
theorem kp_law_same : Keeps 2 6 S_law_same t_law_same := by
  refine ⟨fun ds st Q ⟨d, e, _⟩ => by rw [e]; rfl, fun ds st Q ⟨d, e, hf, hw, k⟩ => ?_⟩
  subst e
  have sz2 : 2 ≤ sizeLine := by decide
  have sz1 : 1 ≤ sizeLine := by decide
  unfold t_law_same
  walk_at "s"
  intro p hp
  refine sSeq_i (fun env st' => Keep st st') (fun nx hx => ?_) fun env st1 hk => ?_
  · refine ⟨fun j env st' => ∃ x y z, env = [some d, some d, some (.ref p), x, y, z] ∧ ∃ ds : List D, st' p = some (.lst (ds.map twice)) ∧ (∀ d ∈ ds, datD d = true) ∧ wD.wDs ds = j ∧ j ≤ 10000000 ∧ Keep st st', ⟨wD d, none, none, none, rfl, [d], put_same, fun d' h => by rw [List.mem_singleton.mp h]; exact hf, rfl, hw, Keep.put hp⟩, ?_⟩
    rintro j env st1 ⟨x, y, z, rfl, ds, lp, hds, hj, hj2, hk⟩
    have hx1 := fun env => hx env _ hk
    rcases List.eq_nil_or_concat ds with rfl | ⟨l, c, rfl⟩
    · walk_at "i"
    · rw [List.concat_eq_append] at *
      have e1 : ((l ++ [c]).map twice).getLast? = some (.tup [c, c]) := by simp [twice]
      have e2 : ((l ++ [c]).map twice).dropLast = l.map twice := by simp
      have e3 : 0 < ((l ++ [c]).map twice).length := by simp
      have hc := hds c (by simp)
      have hj' : wD.wDs l + wD c = j := by rw [← hj, wDs_append]; simp [wD.wDs]
      have hl := wDs_len l
      have hcp := wD_pos c
      have hds' : ∀ d ∈ l, datD d = true := fun d hd => hds d (List.mem_append_left _ hd)
      have kp : Keep st (put st1 p (.lst (l.map twice))) := hk.mut hp
      have lp2 : put st1 p (.lst (l.map twice)) p = some (.lst (l.map twice)) := put_same
      clear hx hk hds
      walk_at "i"
      clear e1 e2 e3 lp hx1
      generalize put st1 p (.lst (l.map twice)) = st2 at *
      cases c with
      | tup xs =>
        have h1 : wD (.tup xs) = 1 + wD.wDs xs := rfl
        have hl2 := wDs_len xs
        have hcs := datDs_all (xs := xs) hc
        walk_at "i"
        refine ⟨by omega, fun i env st' => ∃ z, env = [some d, some d, some (.ref p), some (.tup xs), some (.tup xs), z] ∧ st' p = some (.lst ((l ++ xs.take i).map twice)) ∧ Keep st st', ⟨z, rfl, by simpa using lp2, kp⟩, fun _ _ _ _ _ => trivial, ?_, ?_⟩
        · rintro i w env st' hw ⟨z, rfl, lp3, kp3⟩
          have hi : i < xs.length := by
            have := List.getElem?_eq_some_iff.mp hw
            obtain ⟨h, _⟩ := this
            simpa [rangeD] using h
          have ew : w = .int ((i : Nat) : Int) := by
            simp [rangeD, hi] at hw
            exact hw.symm
          subst ew
          have e5 : atI xs ((i : Nat) : Int) = some xs[i] := by rw [atI_ofNat, List.getElem?_eq_getElem hi]
          have e6 : ((l ++ xs.take i).map twice).length < sizeLine := by
            rw [List.length_map, List.length_append, List.length_take, szL]
            omega
          walk_at "i"
          refine ⟨_, rfl, ?_, kp3.mut hp⟩
          congr 2
          rw [take_snoc (List.getElem?_eq_getElem hi), ← List.append_assoc]
          exact (List.map_append (f := twice) (l₁ := l ++ xs.take i) (l₂ := [xs[i]])).symm
        · rintro env st' ⟨z, rfl, lp3, kp3⟩
          rw [show (rangeD 0 (xs.length : Int).toNat).length = xs.length by simp [rangeD], List.take_length] at lp3
          refine ⟨_, by omega, _, _, _, rfl, l ++ xs, lp3, fun d' hd => ?_, wDs_append .., by omega, kp3⟩
          rcases List.mem_append.mp hd with hd | hd
          · exact hds' d' hd
          · exact hcs d' hd
      | non =>
        walk_at "i"
        exact ⟨_, rfl, rfl, _, by omega, _, _, _, rfl, l, lp2, hds', rfl, by omega, kp⟩
      | bl v =>
        walk_at "i"
        exact ⟨_, rfl, rfl, _, by omega, _, _, _, rfl, l, lp2, hds', rfl, by omega, kp⟩
      | int v =>
        walk_at "i"
        exact ⟨_, rfl, rfl, _, by omega, _, _, _, rfl, l, lp2, hds', rfl, by omega, kp⟩
      | str v =>
        walk_at "i"
        exact ⟨_, rfl, rfl, _, by omega, _, _, _, rfl, l, lp2, hds', rfl, by omega, kp⟩
      | ty n => cases hc
      | ref a => cases hc
  · walk_at "i"
    exact endsOf_i (k _ hk)
def S_law_all : DSp := fun vs st Q => ∃ (a : Addr) (ds : List D), vs = [.ref a] ∧ st a = some (.lst (ds.map twice)) ∧ ds.length ≤ 1000000 ∧ (∀ d ∈ ds, datD d = true ∧ wD d ≤ 10000000) ∧ ∀ st', Keep st st' → Q (.bl true) st'
/-- _law_all(pairs): 0 pairs 1 told 2 due -/
def t_law_all : MS := sRet (mBin oEq (mCall oLen (mCons (mLc (wSeq (mVar 0)) (gTup 2 (gCons (gN 1) (gCons (gN 2) (gNil)))) (mNot (mTest (mCall S_law_same (mCons (mVar 1) (mCons (mVar 2) (mNil)))))) (mVar 1) [1, 2]) (mNil))) (mC (.int 0)))
theorem kp_law_all : Keeps 1 3 S_law_all t_law_all := by
  refine ⟨fun ds st Q ⟨a, xs, e, _⟩ => by rw [e]; rfl, fun ds st Q ⟨a, xs, e, la, hl, hd, k⟩ => ?_⟩
  subst e
  unfold t_law_all
  walk_at "s"
  refine lc_keep (fun _ => none) (fun st' u => ?_) (by rw [List.length_map, szL]; omega) (fun x hx st2 u P N hy hn => ?_) fun p st' hp u lp => ?_
  · rw [u.l la]; rfl
  · obtain ⟨d, hdx, rfl⟩ := List.mem_map.mp hx
    obtain ⟨h1, h2⟩ := hd d hdx
    unfold twice
    walk_at "s"
    refine ⟨d, rfl, h1, h2, fun st3 u3 => ?_⟩
    have hn' := hn st3 rfl u3
    clear hn hy
    walk_at "s"
  · have e : (xs.map twice).filterMap (fun _ => (none : Option D)) = [] := by simp
    rw [e] at lp
    clear la
    walk_at "s"
    exact endsOf_i (k _ u)
def words22 : List Str := ["same", "use", "by", "at", "left", "right", "grow", "cases", "smaller", "claim", "together", "done", "sort", "open", "make", "do", "rule", "word", "alike", "unlike", "all", "broken"]
def S_law_words : DSp := fun vs st Q => vs = [] ∧ ∀ p st', Nf st p → Keep st st' → st' p = some (.lst (words22.map D.str)) → Q (.ref p) st'
/-- _law_words(): 0 some -/
def t_law_words : MS := sSeq (sAsg (mLst (mCons (mC (.str "same")) (mCons (mC (.str "use")) (mCons (mC (.str "by")) (mCons (mC (.str "at")) (mCons (mC (.str "left")) (mCons (mC (.str "right")) (mCons (mC (.str "grow")) (mCons (mC (.str "cases")) (mCons (mC (.str "smaller")) (mCons (mC (.str "claim")) (mCons (mC (.str "together")) (mCons (mC (.str "done")) (mNil)))))))))))))) (gN 0))
    (sRet (mBin oAdd (mVar 0) (mLst (mCons (mC (.str "sort")) (mCons (mC (.str "open")) (mCons (mC (.str "make")) (mCons (mC (.str "do")) (mCons (mC (.str "rule")) (mCons (mC (.str "word")) (mCons (mC (.str "alike")) (mCons (mC (.str "unlike")) (mCons (mC (.str "all")) (mCons (mC (.str "broken")) (mNil))))))))))))))
theorem kp_law_words : Keeps 0 1 S_law_words t_law_words := by
  refine ⟨fun ds st Q ⟨e, _⟩ => by rw [e]; rfl, fun ds st Q ⟨e, k⟩ => ?_⟩
  subst e
  have s1 : 12 ≤ sizeLine := by decide
  have s2 : 10 ≤ sizeLine := by decide
  have s3 : 12 + 10 ≤ sizeLine := by decide
  unfold t_law_words
  walk_at "s"
  intro p hp q hq
  have n1 := hq.ne put_same
  rw [put_ne n1.symm]
  walk_at "s"
  intro r hr
  have n2 : r ≠ p := hr.ne (by rw [put_ne n1.symm]; exact put_same)
  have n3 : r ≠ q := hr.ne put_same
  refine endsOf_i (k _ _ ?_ (((Keep.put hp).new hq).new hr) put_same)
  rcases hr with h | ⟨xs, h⟩
  · rw [put_ne n3, put_ne n2] at h; exact .inl h
  · rw [put_ne n3, put_ne n2] at h; exact .inr ⟨xs, h⟩
end L2.DL

namespace L2.DL
open PySem PySem.Spec PyProof.Rows
local macro_rules | `(tactic| walk_at "s") => `(tactic| try simp only [sqAsg_a, sqDrop_a, sqPar_a, sqPar3_a, sqRet_a, sqNext_a, sqSeq_a, sNext_a, sBreak_a, sCont_a, sDrop_a, sRet_a, sRetN_a, sIf_a, sAsg_a, sPar_a, sPar3_a, mVar_a, vAt_a, mC_a, mBin_a, mTest_a, bAt_a, mAnd_a, mOr_a, mNot_a, mYes_a, mAndV_a, mOrV_a, mNotV_a, mIf_a, mNil_a, mCons_a, mTup_a, mLst_a, mCall_a, mCallK_a, mMeth_a, mSl_a, mNoPart_a, iAt_a, mPart_a, mIsi_b, tysO_some, List.any_cons, List.any_nil, Bool.or_false, Bool.false_or, Bool.or_true, Bool.true_or, Int.natCast_pos, gN_a, gTup_a, gCons_a, gNil_a, gSub_a, sFor_a, mLc_a, mDc_a, wSeq_a, sqO_tup, sqO_str, sqO_ref, wRng1_a, mRev_a, revO_ref, List.getD_cons_zero, List.getD_cons_succ, ite_self, List.set_cons_zero, List.set_cons_succ, List.getElem?_cons_zero, List.getElem?_cons_succ, oAdd_int, oAdd_str, oAdd_tup, oAdd_ref, oSub_int, oMul_int, oDiv_int, oMod_int, oPow_int, oLt_int, oLe_int, oGt_int, oGe_int, oIs_nn, oIs_bn, oIs_in, oIs_sn, oIs_tn, oIs_rn, oIs_bb, oIs_nb, oIs_ib, oIs_sb, oIs_tb, oIs_rb, oIsi_int, oIsi_str, oIsi_bool, oIsi_tuple, oIsi_list, oIsi_dict, tyO_some, tyD_non, tyD_bl, tyD_int, tyD_str, tyD_tup, isi_facts, oEq_int, oNe_int, oEq_str, oNe_str, oSl_tup, oSl_str, oSl_ref, oLen_tup, oLen_str, oLen_ref, oAbs_int, oInt_int, oInt_bl, oMax_int, oMin_int, oTuple_tup, oTuple_ref, oList_tup, oList_str, oList_ref, oIx_tupE, oIx_ref, oAppend_ref, oPop_ref, oExtend_tupE, oSet_ref, isL_ref, isS_str, vO_some, ixO_lst, ixO_dicI, ixO_dicS, ixO_rodI, ixO_rodS, lsO_lst, rdO_lst, rdO_rol, lenO_lst, lenO_dic, lenO_rol, addO_lst, setO_lst, setO_dicI, setO_dicS, atI_zero, atI_one, atI_two, atI_end, startE, wipeE, List.map_cons, List.map_nil, List.length_cons, List.length_nil, List.replicate, List.cons_append, List.nil_append, Nat.reduceAdd, Nat.reduceSub, List.replicate_succ, List.replicate_zero, put_same, Nat.zero_le, Int.reduceLT, Int.reduceLE, Nat.reduceLT, Nat.reduceLeDiff, and_true, true_and, Bool.false_eq_true, ↓reduceIte, Bool.not_true, Bool.not_false, decide_true, decide_false, *])
local macro_rules | `(tactic| walk_at "i") => `(tactic| try simp only [sqIf_a, sqAsg_a, sqDrop_a, sqPar_a, sqPar3_a, sqRet_a, sqNext_a, sqSeq_a, sNext_a, sBreak_a, sCont_a, sDrop_a, sRet_a, sRetN_a, sIf_a, sAsg_a, sPar_a, sPar3_a, mVar_a, vAt_a, mC_a, mBin_a, mTest_a, bAt_a, mAnd_a, mOr_a, mNot_a, mYes_a, mAndV_a, mOrV_a, mNotV_a, mIf_a, mNil_a, mCons_a, mTup_a, mLst_a, mCall_a, mCallK_a, mMeth_a, mSl_a, mNoPart_a, iAt_a, mPart_a, mIsi_b, tysO_some, List.any_cons, List.any_nil, Bool.or_false, Bool.false_or, Bool.or_true, Bool.true_or, Int.natCast_pos, gN_a, gTup_a, gCons_a, gNil_a, gSub_a, sFor_a, mLc_a, mDc_a, wSeq_a, sqO_tup, sqO_str, sqO_ref, wRng1_a, mRev_a, revO_ref, List.getD_cons_zero, List.getD_cons_succ, ite_self, List.set_cons_zero, List.set_cons_succ, List.getElem?_cons_zero, List.getElem?_cons_succ, oAdd_int, oAdd_str, oAdd_tup, oAdd_ref, oSub_int, oMul_int, oDiv_int, oMod_int, oPow_int, oLt_int, oLe_int, oGt_int, oGe_int, oIs_nn, oIs_bn, oIs_in, oIs_sn, oIs_tn, oIs_rn, oIs_bb, oIs_nb, oIs_ib, oIs_sb, oIs_tb, oIs_rb, oIsi_int, oIsi_str, oIsi_bool, oIsi_tuple, oIsi_list, oIsi_dict, tyO_some, tyD_non, tyD_bl, tyD_int, tyD_str, tyD_tup, isi_facts, oEq_int, oNe_int, oEq_str, oNe_str, oSl_tup, oSl_str, oSl_ref, oLen_tup, oLen_str, oLen_ref, oAbs_int, oInt_int, oInt_bl, oMax_int, oMin_int, oTuple_tup, oTuple_ref, oList_tup, oList_str, oList_ref, oIx_tupE, oIx_ref, oAppend_ref, oPop_ref, oExtend_tupE, oSet_ref, isL_ref, isS_str, vO_some, ixO_lst, ixO_dicI, ixO_dicS, ixO_rodI, ixO_rodS, lsO_lst, rdO_lst, rdO_rol, lenO_lst, lenO_dic, lenO_rol, addO_lst, setO_lst, setO_dicI, setO_dicS, atI_zero, atI_one, atI_two, atI_end, startE, wipeE, List.map_cons, List.map_nil, List.length_cons, List.length_nil, List.replicate, List.cons_append, List.nil_append, Nat.reduceAdd, Nat.reduceSub, List.replicate_succ, List.replicate_zero, put_same, Nat.zero_le, Int.reduceLT, Int.reduceLE, Nat.reduceLT, Nat.reduceLeDiff, and_true, true_and, Bool.false_eq_true, ↓reduceIte, Bool.not_true, Bool.not_false, decide_true, decide_false, *])
/-! ### names -/
def al8 : List Str := ("abcdefgh" : Str).cps.toList.map fun c => (⟨#[c]⟩ : Str)
theorem signs_al8 : signsD ("abcdefgh" : Str) = al8.map D.str := by
  unfold signsD al8
  rw [List.map_map]
  rfl
def lateOf (a : Str) : List Str := al8.map fun b => a ++ b
def marks72 : List Str := al8 ++ al8.flatMap lateOf
def az18 : Str := "ijklmnopqrstuvwxyz"
/-- letters up to h -/
def filt (x : Str) : List Nat := x.cps.toList.filter fun c => decide (c ≤ 104)
def azOk (x : Str) : Bool := x.cps.toList.all fun c => decide (97 ≤ c ∧ c ≤ 122)
def nmOk (x : Str) : Prop := azOk x = true ∧ x.length ≤ 20
def NameAt (start step word : Int) (t : Nat) (x : Str) : Prop := nmOk x ∧ (words22[((word + t) % 22).toNat]? = some x ∨ (x ∉ words22 ∧ ∃ mk, marks72[((start + t * step) % 72).toNat]? = some mk ∧ filt x = mk.cps.toList))
theorem marks72_len : marks72.length = 72 := by decide +kernel
theorem al8_one : ∀ x ∈ al8, x.length = 1 := by decide +kernel
theorem words22_len : words22.length = 22 := rfl
theorem marks72_nodup : marks72.Nodup := by decide +kernel
theorem words22_nodup : words22.Nodup := by decide +kernel
theorem words22_ok : ∀ x ∈ words22, azOk x = true ∧ x.length ≤ 20 := by decide +kernel
theorem marks72_ok : ∀ x ∈ marks72, azOk x = true ∧ x.length ≤ 2 ∧ 1 ≤ x.length ∧ x ∉ words22 ∧ filt x = x.cps.toList := by decide +kernel
theorem az18_ok : az18.length = 18 ∧ ∀ c ∈ az18.cps.toList, 105 ≤ c ∧ c ≤ 122 := by decide +kernel
theorem get_inj {α : Type} {l : List α} (h : l.Nodup) {i j : Nat} {x : α} (h1 : l[i]? = some x) (h2 : l[j]? = some x) : i = j := by
  obtain ⟨a, h1⟩ := List.getElem?_eq_some_iff.mp h1
  obtain ⟨b, h2⟩ := List.getElem?_eq_some_iff.mp h2
  exact (List.getElem_inj h).mp (h1.trans h2.symm)
theorem NameAt.inj {start step word : Int} {t u : Nat} {x : Str} (hs : step ∈ [1, 5, 7, 11, 25, 35]) (ht : t < 22) (hu : u < 22) (h : NameAt start step word t x) (k : NameAt start step word u x) : t = u := by
  rcases h.2 with h1 | ⟨h1, a, h2, h3⟩
  · rcases k.2 with k1 | ⟨k1, _⟩
    · have := get_inj words22_nodup h1 k1
      omega
    · exact absurd (List.mem_of_getElem? h1) k1
  · rcases k.2 with k1 | ⟨k1, b, k2, k3⟩
    · exact absurd (List.mem_of_getElem? k1) h1
    · have e : a = b := str_ext (h3.symm.trans k3)
      subst e
      have := get_inj marks72_nodup h2 k2
      simp only [List.mem_cons, List.not_mem_nil, or_false] at hs
      rcases hs with rfl | rfl | rfl | rfl | rfl | rfl <;> omega
theorem cps_app (a b : Str) : (a ++ b).cps.toList = a.cps.toList ++ b.cps.toList := by
  show (a.cps ++ b.cps).toList = _
  simp
theorem len_app (a b : Str) : (a ++ b).length = a.length + b.length := by
  show (a.cps ++ b.cps).size = _
  simp [Str.length]
theorem len_cps (a : Str) : a.length = a.cps.toList.length := by simp [Str.length]
theorem cut_mem {z : Str} {lo hi : Option Int} {c : Nat} (h : c ∈ (cutS z lo hi).cps.toList) : c ∈ z.cps.toList := by
  unfold cutS at h
  simp only [List.toList_toArray] at h
  exact List.mem_of_mem_drop (List.mem_of_mem_take h)
theorem cut_len (z : Str) (lo hi : Option Int) : (cutS z lo hi).length ≤ z.length := by
  rw [len_cps, len_cps]
  unfold cutS
  simp only [List.toList_toArray, List.length_take, List.length_drop]
  omega
theorem name_ok {L mk : Str} (hL : ∀ c ∈ L.cps.toList, 105 ≤ c ∧ c ≤ 122) (hl : L.length ≤ 8) (hm : mk ∈ marks72) (a b c d : Option Int) :
    nmOk (cutS L a b ++ mk ++ cutS L c d) ∧ filt (cutS L a b ++ mk ++ cutS L c d) = mk.cps.toList := by
  obtain ⟨m1, m2, m3, m4, m5⟩ := marks72_ok mk hm
  have h1 := cut_len L a b
  have h2 := cut_len L c d
  have no : ∀ lo hi, (cutS L lo hi).cps.toList.filter (fun c => decide (c ≤ 104)) = [] := fun lo hi => by
    rw [List.filter_eq_nil_iff]
    intro x hx
    have := hL x (cut_mem hx)
    simp
    omega
  have ok : ∀ lo hi, (cutS L lo hi).cps.toList.all (fun c => decide (97 ≤ c ∧ c ≤ 122)) = true := fun lo hi => by
    rw [List.all_eq_true]
    intro x hx
    have := hL x (cut_mem hx)
    simp
    omega
  refine ⟨⟨?_, ?_⟩, ?_⟩
  · unfold azOk at m1 ⊢
    rw [cps_app, cps_app, List.all_append, List.all_append, ok, ok, m1]
    rfl
  · rw [len_app, len_app]
    omega
  · unfold filt at m5 ⊢
    rw [cps_app, cps_app, List.filter_append, List.filter_append, no, no, m5]
    simp
theorem joinL_mem {c : Nat} : ∀ {l : List (List Nat)}, c ∈ TL.joinL [] l → ∃ p ∈ l, c ∈ p
  | [], h => by cases h
  | [p], h => ⟨p, List.mem_cons_self .., h⟩
  | p :: q :: r, h => by
    have h' : c ∈ p ++ ([] ++ TL.joinL [] (q :: r)) := h
    rw [List.nil_append, List.mem_append] at h'
    rcases h' with h' | h'
    · exact ⟨p, List.mem_cons_self .., h'⟩
    · obtain ⟨z, hz, hc⟩ := joinL_mem h'
      exact ⟨z, List.mem_cons_of_mem _ hz, hc⟩
theorem join_mem {ys : List Str} {c : Nat} (h : c ∈ (Txt.join "" ys).cps.toList) : ∃ y ∈ ys, c ∈ y.cps.toList := by
  rw [TL.join_eq] at h
  have e := TL.tl_join "" ys
  have h' : c ∈ TL.tl (Str.join "" ys) := h
  rw [e] at h'
  obtain ⟨p, hp, hc⟩ := joinL_mem (show c ∈ TL.joinL [] (ys.map TL.tl) from h')
  obtain ⟨y, hy, rfl⟩ := List.mem_map.mp hp
  exact ⟨y, hy, hc⟩
theorem inF_strs (x : Str) (l : List Str) : inF (.str x) (l.map D.str) = decide (x ∈ l) := by
  unfold inF
  rw [List.any_map]
  induction l with
  | nil => simp
  | cons y l ih =>
    rw [List.any_cons, ih]
    by_cases h : x = y
    · subst h; simp [eqF]
    · have : (y == x) = false := by simpa using fun e => h e.symm
      simp [eqF, this, h]
theorem flat_strs (l : List Str) : (l.map D.str).all flatD = true := by
  rw [List.all_map, List.all_eq_true]
  intro x _
  rfl
theorem Nf.back {st st' : Sto} {n m p : Addr} (h : Nf st' p) (u : Up n m st st') (pn : p ≠ n) (pm : p ≠ m) : Nf st p := by
  cases e : st p with
  | none => exact .inl e
  | some o =>
    cases o with
    | rol xs => exact .inr ⟨xs, e⟩
    | _ => exact absurd rfl (h.not (u.keep _ _ pn pm (by trivial) e) (by trivial))
theorem Nf.backK {st st' : Sto} {p : Addr} (h : Nf st' p) (u : Keep st st') : Nf st p := by
  cases e : st p with
  | none => exact .inl e
  | some o =>
    cases o with
    | rol xs => exact .inr ⟨xs, e⟩
    | _ => exact absurd rfl (h.not (u _ _ (by trivial) e) (by trivial))
def S_law_names : DSp := fun vs st Q => ∃ (n m : Addr) (k : Nat), vs = [.ref n, .int k] ∧ Deal st n m ∧ k ≤ 22 ∧
  ∀ (names : List Str) a st', names.length = k → names.Nodup → (∀ x ∈ names, nmOk x) → a ≠ n → a ≠ m → Up n m st st' → st' a = some (.lst (names.map D.str)) → Nf st a → Q (.ref a) st'
/-- _law_names(deal, many): 0 deal 1 many 2 marks 3 words 4 lead 5 start 6 step 7 found 8 word 9 turn 10 mark 11 letters 12 place 13 name 14 late 15 spot -/
def t_law_names : MS := sSeq (sPar 2 3 (mCons (mCall oList (mCons (mC (.str "abcdefgh")) (mNil))) (mCons (mCall S_law_words mNil) (mNil))))
    (sSeq (sFor (wSeq (mC (.str "abcdefgh"))) (gN 4) (sAsg (mBin oAdd (mVar 2) (mLc (wSeq (mC (.str "abcdefgh"))) (gN 14) (mYes) (mBin oAdd (mVar 4) (mVar 14)) [14])) (gN 2)))
    (sSeq (sAsg (mTup (mCons (mCall S_law_any (mCons (mVar 0) (mCons (mC (.int 72)) (mNil)))) (mCons (mCall S_law_of (mCons (mVar 0) (mCons (mLst (mCons (mC (.int 1)) (mCons (mC (.int 5)) (mCons (mC (.int 7)) (mCons (mC (.int 11)) (mCons (mC (.int 25)) (mCons (mC (.int 35)) (mNil)))))))) (mNil)))) (mCons (mLst (mNil)) (mCons (mCall S_law_any (mCons (mVar 0) (mCons (mC (.int 22)) (mNil)))) (mNil)))))) (gTup 4 (gCons (gN 5) (gCons (gN 6) (gCons (gN 7) (gCons (gN 8) (gNil)))))))
    (sSeq (sFor (wRng1 (mVar 1)) (gN 9) (sSeq (sAsg (mBin oIx (mVar 2) (mBin oMod (mCall oInt (mCons (mBin oAdd (mVar 5) (mBin oMul (mVar 9) (mVar 6))) (mNil))) (mC (.int 72)))) (gN 10))
    (sSeq (sAsg (mMeth isS oJoin (mC (.str "")) (mCons (mLc (wRng1 (mCall S_law_any (mCons (mVar 0) (mCons (mBin oSub (mC (.int 9)) (mCall oLen (mCons (mVar 10) (mNil)))) (mNil))))) (gN 15) (mYes) (mBin oIx (mC (.str "ijklmnopqrstuvwxyz")) (mCall S_law_any (mCons (mVar 0) (mCons (mC (.int 18)) (mNil))))) [15]) (mNil))) (gN 11))
    (sSeq (sAsg (mCall S_law_any (mCons (mVar 0) (mCons (mBin oAdd (mCall oLen (mCons (mVar 11) (mNil))) (mC (.int 1))) (mNil)))) (gN 12))
    (sSeq (sAsg (mBin oAdd (mBin oAdd (mSl (mVar 11) (mNoPart) (mPart (mVar 12))) (mVar 10)) (mSl (mVar 11) (mPart (mVar 12)) (mNoPart))) (gN 13))
    (sIf (mTest (mBin oEq (mCall S_law_any (mCons (mVar 0) (mCons (mC (.int 6)) (mNil)))) (mC (.int 0)))) (sDrop (mMeth isL oAppend (mVar 7) (mCons (mBin oIx (mVar 3) (mBin oMod (mCall oInt (mCons (mBin oAdd (mVar 8) (mVar 9)) (mNil))) (mC (.int 22)))) (mNil)))) (sDrop (mMeth isL oAppend (mVar 7) (mCons (mIf (mTest (mBin oIn (mVar 13) (mVar 3))) (mVar 10) (mVar 13)) (mNil))))))))))
    (sRet (mVar 7)))))
theorem kp_law_names : Keeps 2 16 S_law_names t_law_names := by
  refine ⟨fun ds st Q ⟨n, m, k, e, _⟩ => by rw [e]; rfl, fun ds st Q ⟨n, m, j, e, hd, hj, k⟩ => ?_⟩
  subst e
  have s1 : ("abcdefgh" : Str).length ≤ sizeLine := by decide +kernel
  unfold t_law_names
  walk_at "s"
  intro p hp
  obtain ⟨pn, pm⟩ := hp.deal hd
  refine ⟨rfl, fun w st1 hw kw lw => ?_⟩
  have wp : w ≠ p := hw.ne put_same
  have lp1 : st1 p = _ := kw.l put_same
  have u1 : Up n m st st1 := ((Up.refl hd).put hp pn pm).then kw
  obtain ⟨wn, wm⟩ := hw.deal (hd.put pn pm)
  clear kw
  refine sSeq_i (fun env st' => ∃ q x, env = [some (.ref n), some (.int j), some (.ref q), some (.ref w), x, none, none, none, none, none, none, none, none, none, none, none] ∧ Up n m st st' ∧ st' w = some (.lst (words22.map D.str)) ∧ st' q = some (.lst (marks72.map D.str)) ∧ q ≠ n ∧ q ≠ m) (fun nx hx => ?_) ?_
  · rw [sFor_a]
    walk_at "s"
    rw [signs_al8] at *
    refine ⟨fun i env st' => ∃ q x, env = [some (.ref n), some (.int j), some (.ref q), some (.ref w), x, none, none, none, none, none, none, none, none, none, none, none] ∧ Up n m st st' ∧ st' w = some (.lst (words22.map D.str)) ∧ st' q = some (.lst ((al8 ++ (al8.take i).flatMap lateOf).map D.str)) ∧ q ≠ n ∧ q ≠ m, ⟨p, none, rfl, u1, lw, by simpa using lp1, pn, pm⟩, fun _ _ _ _ _ => trivial, ?_, ?_⟩
    · rintro i y env st' hy ⟨q, x, rfl, u2, lw2, lq2, qn, qm⟩
      clear hx lw lp1 u1
      rw [List.getElem?_map, Option.map_eq_some_iff] at hy
      obtain ⟨a, ha, rfl⟩ := hy
      have a1 := al8_one a (List.mem_of_getElem? ha)
      walk_at "s"
      rw [signs_al8]
      refine lc_keep (onS fun b => some (.str (a ++ b))) (fun _ _ => trivial) (by rw [List.length_map]; decide +kernel) (fun y hy st3 u3 P N hP hN => ?_) fun p3 st4 hp3 u4 lp4 => ?_
      · obtain ⟨b, hb, rfl⟩ := List.mem_map.mp hy
        have b1 := al8_one b hb
        have h1 : a.length + b.length ≤ sizeLine := by rw [a1, b1]; decide
        have h2 := hP (.str (a ++ b)) st3 rfl .refl
        clear hP hN a1 b1
        walk_at "s"
      · have n3 : p3 ≠ q := hp3.ne lq2
        have lq4 := u4.l lq2
        have lw4 := u4.l lw2
        have u5 := u2.then u4
        rw [onS_map, fm_some] at lp4
        replace lp4 : st4 p3 = some (.lst ((al8.map fun b => a ++ b).map D.str)) := by rw [lp4, List.map_map]; rfl
        have h1 : ((al8 ++ (al8.take i).flatMap lateOf).map D.str).length + ((al8.map fun b => a ++ b).map D.str).length ≤ sizeLine := by
          have e1 : al8.length = 8 := by decide +kernel
          have e2 : ((al8.take i).flatMap lateOf).length ≤ 8 * (al8.take i).length := by
            generalize al8.take i = l
            induction l with
            | nil => simp
            | cons b l ih =>
              have : (lateOf b).length = 8 := by unfold lateOf; rw [List.length_map, e1]
              simp only [List.flatMap_cons, List.length_append, List.length_cons]
              omega
          have e3 : (al8.take i).length ≤ 8 := by rw [List.length_take]; omega
          rw [List.length_map, List.length_append, List.length_map, List.length_map, szL]
          omega
        clear lq2 lw2 u4
        walk_at "s"
        refine fun p5 hp5 => ⟨_, _, rfl, u5.then (Keep.put hp5), (Keep.put hp5).l lw4, ?_, hp5.deal u5.deal⟩
        rw [put_same, ← List.map_append, List.append_assoc, take_snoc ha, List.flatMap_append]
        simp [lateOf]
    · rintro env st' ⟨q, x, rfl, u2, lw2, lq2, qn, qm⟩
      refine hx _ _ ⟨q, x, rfl, u2, lw2, ?_, qn, qm⟩
      rw [List.length_map, List.take_length] at lq2
      exact lq2
  · rintro env st2 ⟨q, x, rfl, u2, lw2, lq2, qn, qm⟩
    have z4 : 4 ≤ sizeLine := by decide
    have z6 : 6 ≤ sizeLine := by decide
    walk_at "s"
    refine ⟨n, m, 72, rfl, u2.deal, by omega, by omega, fun start st3 a0 a1 u3 => ?_⟩
    have lw3 := u3.l wn wm lw2
    have lq3 := u3.l qn qm lq2
    refine fun p4 hp4 => ?_
    obtain ⟨p4n, p4m⟩ := hp4.deal u3.deal
    have d4 : Deal (put st3 p4 (.lst [.int 1, .int 5, .int 7, .int 11, .int 25, .int 35])) n m := u3.deal.put p4n p4m
    refine ⟨n, m, .ref p4, _, rfl, d4, ⟨p4n, p4m, put_same⟩, by decide, by decide, fun sd st4 hsd u4 => ?_⟩
    obtain ⟨step, rfl, hstep⟩ : ∃ step : Int, sd = .int step ∧ step ∈ [1, 5, 7, 11, 25, 35] := by
      simp only [List.mem_cons, List.not_mem_nil, or_false] at hsd ⊢
      rcases hsd with rfl | rfl | rfl | rfl | rfl | rfl <;> exact ⟨_, rfl, by simp⟩
    have lw4 := u4.l wn wm ((Keep.put hp4).l lw3)
    have lq4 := u4.l qn qm ((Keep.put hp4).l lq3)
    have u5 : Up n m st st4 := ((u2.trans u3).then (Keep.put hp4)).trans u4
    clear lw3 lq3 lw2 lq2 u2 u3 u4 d4 lw lp1 u1
    walk_at "s"
    refine fun f hf => ?_
    obtain ⟨fn, fm⟩ := hf.deal u5.deal
    have fw := hf.ne lw4
    have fq := hf.ne lq4
    have nf0 : Nf st f := hf.back u5 fn fm
    refine ⟨n, m, 22, rfl, u5.deal.put fn fm, by omega, by omega, fun word st6 b0 b1 u6 => ?_⟩
    have lw6 := u6.l wn wm ((Keep.put hf).l lw4)
    have lq6 := u6.l qn qm ((Keep.put hf).l lq4)
    have lf6 := u6.l fn fm put_same
    have u7 : Up n m st st6 := (u5.then (Keep.put hf)).trans u6
    clear u5 u6 hf lw4 lq4 hw hp hp4 hsd
    walk_at "s"
    refine sSeq_i (fun env st' => ∃ a b c d e x, ∃ names : List Str, env = [some (.ref n), some (.int j), some (.ref q), some (.ref w), x, some (.int start), some (.int step), some (.ref f), some (.int word), a, b, c, d, e, none, none] ∧ names.length = j ∧ (∀ i x, names[i]? = some x → NameAt start step word i x) ∧ st' f = some (.lst (names.map D.str)) ∧ Up n m st st') (fun nx hx => ?_) ?_
    · rw [sFor_a]
      walk_at "s"
      refine ⟨by omega, fun i env st' => ∃ a b c d e x, ∃ names : List Str, env = [some (.ref n), some (.int j), some (.ref q), some (.ref w), x, some (.int start), some (.int step), some (.ref f), some (.int word), a, b, c, d, e, none, none] ∧ names.length = i ∧ (∀ i x, names[i]? = some x → NameAt start step word i x) ∧ st' f = some (.lst (names.map D.str)) ∧ st' q = some (.lst (marks72.map D.str)) ∧ st' w = some (.lst (words22.map D.str)) ∧ Up n m st st', ⟨_, _, _, _, _, _, [], rfl, rfl, fun i x h => by simp at h, lf6, lq6, lw6, u7⟩, fun _ _ _ _ _ => trivial, ?_, ?_⟩
      · rintro i y env st' hy ⟨a, b, c, d, e, x, names, rfl, hlen, hn, lf, lq, lw, u⟩
        clear lf6 lq6 lw6 u7 hx k
        have hi : i < j := by
          obtain ⟨h, _⟩ := List.getElem?_eq_some_iff.mp hy
          simpa [rangeD] using h
        have ey : y = .int ((i : Nat) : Int) := by
          simp [rangeD, hi] at hy
          exact hy.symm
        subst ey
        have w1 : CMulW i step := by
          refine wide_mul (a := 10) (b := 10) (by omega) ?_ (by omega) (by omega) (by omega)
          simp only [List.mem_cons, List.not_mem_nil, or_false] at hstep
          omega
        have hk0 : 0 ≤ (start + i * step) % 72 := Int.emod_nonneg _ (by omega)
        have hk1 : (start + i * step) % 72 < 72 := Int.emod_lt_of_pos _ (by omega)
        obtain ⟨mi, hmi⟩ : ∃ mi : Nat, (start + i * step) % 72 = mi := ⟨((start + i * step) % 72).toNat, by omega⟩
        have hmi2 : mi < marks72.length := by rw [marks72_len]; omega
        have hat : marks72[((start + i * step) % 72).toNat]? = some marks72[mi] := by
          rw [hmi, Int.toNat_natCast, List.getElem?_eq_getElem hmi2]
        have e1 : atI (marks72.map D.str) ((start + i * step) % 72) = some (.str marks72[mi]) := by
          rw [hmi, atI_ofNat, List.getElem?_map, List.getElem?_eq_getElem hmi2]; rfl
        have hmk := List.getElem_mem hmi2
        clear hmi
        generalize marks72[mi] = mk at *
        obtain ⟨m1, m2, m3, m4, m5⟩ := marks72_ok mk hmk
        have hml : mk.length ≤ sizeLine := by rw [szL]; omega
        have lf2 : (names.map D.str).length < sizeLine := by rw [List.length_map, szL]; omega
        have lw2 : words22.length = 22 := rfl
        clear hy
        walk_at "s"
        clear e1
        refine ⟨n, m, _, rfl, u.deal, by omega, by omega, fun cnt st8 c0 c1 u8 => ?_⟩
        have lf8 := u8.l fn fm lf
        have lq8 := u8.l qn qm lq
        have lw8 := u8.l wn wm lw
        have uu8 := u.trans u8
        clear u lf lq lw u8
        walk_at "s"
        refine ⟨by omega, ?_⟩
        refine lc_up (n := n) (m := m) (fun _ o => ∃ s : Str, o = some (.str s) ∧ s.length = 1 ∧ ∀ c ∈ s.cps.toList, 105 ≤ c ∧ c ≤ 122) uu8.deal (fun _ _ => trivial) (by simp [rangeD, szL]; omega) (fun y hy st9 u9 P N hP hN => ?_) fun p9 ys st10 hp9 hF u10 lp10 => ?_
        · obtain ⟨t, ht, rfl⟩ := List.mem_map.mp hy
          clear hN
          walk_at "s"
          refine ⟨n, m, 18, rfl, u9.deal, by omega, by omega, fun g st11 g0 g1 u11 => ?_⟩
          obtain ⟨gi, rfl⟩ : ∃ gi : Nat, g = gi := ⟨g.toNat, by omega⟩
          have hg : gi < az18.cps.toList.length := by
            have := az18_ok.1
            rw [len_cps] at this
            omega
          refine oIx_s (z := az18) (by decide +kernel) (c := az18.cps.toList[gi]) (by rw [atI_ofNat, List.getElem?_eq_getElem hg]) ?_
          refine hP _ _ ⟨_, rfl, rfl, fun c hc => ?_⟩ u11
          have : c = az18.cps.toList[gi] := by simpa using hc
          rw [this]
          exact az18_ok.2 _ (List.getElem_mem hg)
        · obtain ⟨cs, rfl, l1, l2⟩ := hF.strs
          have lf10 := u10.l fn fm lf8
          have lq10 := u10.l qn qm lq8
          have lw10 := u10.l wn wm lw8
          have uu10 := uu8.trans u10
          have l1' : cs.length ≤ 8 := by
            rw [l1]
            simp [rangeD]
            omega
          have l3 : (cs.map (·.length)).sum = cs.length := by
            clear l1 l1' lp10 hF
            induction cs with
            | nil => rfl
            | cons s cs ih =>
              simp only [List.map_cons, List.sum_cons, List.length_cons]
              have := (l2 s (List.mem_cons_self ..)).1
              have := ih fun s hs => l2 s (List.mem_cons_of_mem _ hs)
              omega
          have l4 : (Txt.join "" cs).length ≤ 8 := by
            have h := StrLaws.join_length_le "" cs
            rw [TL.join_eq]
            have e0 : ("" : Str).length = 0 := rfl
            rw [l3, e0] at h
            omega
          have l5 : ∀ c ∈ (Txt.join "" cs).cps.toList, 105 ≤ c ∧ c ≤ 122 := fun c hc => by
            obtain ⟨s, hs, h⟩ := join_mem hc
            exact (l2 s hs).2 c h
          clear lf8 lq8 lw8 uu8 u10 hp9 l1 l2
          refine oJoin_l (by rw [lp10]; rfl) (by rw [l3, show ("" : Str).length = 0 from rfl]; omega) ?_
          clear lp10 l3 l1'
          generalize Txt.join "" cs = L at *
          have z1 : L.length ≤ sizeLine := by rw [szL]; omega
          walk_at "s"
          refine ⟨n, m, _, rfl, uu10.deal, by omega, by omega, fun place st12 _ _ u12 => ?_⟩
          have lf12 := u12.l fn fm lf10
          have lq12 := u12.l qn qm lq10
          have lw12 := u12.l wn wm lw10
          have uu12 := uu10.trans u12
          clear lf10 lq10 lw10 uu10 u12
          have k1 := cut_len L none (some place)
          have k2 := cut_len L (some place) none
          have z2 : (cutS L none (some place)).length + mk.length ≤ sizeLine := by rw [szL]; omega
          have z3 : (cutS L none (some place) ++ mk).length + (cutS L (some place) none).length ≤ sizeLine := by rw [len_app, szL]; omega
          walk_at "s"
          obtain ⟨nm1, nm2⟩ := name_ok l5 l4 hmk none (some place) (some place) none
          generalize cutS L none (some place) ++ mk ++ cutS L (some place) none = nm at *
          refine ⟨n, m, 6, rfl, uu12.deal, by omega, by omega, fun six st13 _ _ u13 => ?_⟩
          have lf13 := u13.l fn fm lf12
          have lq13 := u13.l qn qm lq12
          have lw13 := u13.l wn wm lw12
          have uu13 := uu12.trans u13
          clear lf12 lq12 lw12 uu12 u13 z1 z2 z3
          walk_at "s"
          have fin : ∀ v : Str, NameAt start step word i v → (names ++ [v]).length = i + 1 ∧ (∀ i x, (names ++ [v])[i]? = some x → NameAt start step word i x) ∧ some (Ob.lst (names.map D.str ++ [D.str v])) = some (Ob.lst ((names ++ [v]).map D.str)) ∧
              put st13 f (.lst (names.map D.str ++ [D.str v])) q = some (.lst (marks72.map D.str)) ∧ put st13 f (.lst (names.map D.str ++ [D.str v])) w = some (.lst (words22.map D.str)) ∧ Up n m st (put st13 f (.lst (names.map D.str ++ [D.str v]))) := fun v hv => by
            refine ⟨by simp [hlen], fun i2 x h => ?_, by simp, by rw [put_ne fq.symm]; exact lq13, by rw [put_ne fw.symm]; exact lw13, uu13.put nf0 fn fm⟩
            by_cases h2 : i2 < names.length
            · rw [List.getElem?_append_left h2] at h
              exact hn i2 x h
            · have h3 : i2 = names.length := by
                have := (List.getElem?_eq_some_iff.mp h).1
                rw [List.length_append] at this
                simp at this
                omega
              subst h3
              rw [List.getElem?_append_right (Nat.le_refl _)] at h
              simp at h
              subst h
              rw [hlen]
              exact hv
          by_cases h6 : six = 0
          · rw [if_pos (by simpa using h6)]
            have h0 : 0 ≤ (word + (i : Int)) % 22 := Int.emod_nonneg _ (by omega)
            have h1 : (word + (i : Int)) % 22 < 22 := Int.emod_lt_of_pos _ (by omega)
            have h2 : ((word + (i : Int)) % 22).toNat < words22.length := by rw [words22_len]; omega
            have h3 : words22[((word + (i : Int)) % 22).toNat]? = some words22[((word + (i : Int)) % 22).toNat] := List.getElem?_eq_getElem h2
            have e1 : atI (words22.map D.str) ((word + (i : Int)) % 22) = some (.str words22[((word + (i : Int)) % 22).toNat]) := by
              conv => lhs; rw [← Int.toNat_of_nonneg h0]
              rw [atI_ofNat, List.getElem?_map, h3]; rfl
            rw [e1, vO_some, lf13, lsO_lst]
            have ok := words22_ok _ (List.getElem_mem h2)
            exact ⟨lf2, _, _, _, _, _, _, _, rfl, fin _ ⟨ok, .inl h3⟩⟩
          · rw [if_neg (by simpa using h6)]
            refine oIn_ref ?_
            rw [lw13, inO_lst]
            refine ⟨rfl, flat_strs _, ?_⟩
            rw [inF_strs, bAt_a]
            by_cases h7 : nm ∈ words22
            · rw [if_pos (by simpa using h7), lf13, lsO_lst]
              exact ⟨lf2, _, _, _, _, _, _, _, rfl, fin _ ⟨⟨m1, by omega⟩, .inr ⟨m4, mk, hat, m5⟩⟩⟩
            · rw [if_neg (by simpa using h7), lf13, lsO_lst]
              exact ⟨lf2, _, _, _, _, _, _, _, rfl, fin _ ⟨nm1, .inr ⟨h7, mk, hat, nm2⟩⟩⟩
      · rintro env st' ⟨a, b, c, d, e, x, names, rfl, hlen, hn, lf, lq, lw, u⟩
        refine hx _ _ ⟨a, b, c, d, e, x, names, rfl, ?_, hn, lf, u⟩
        simpa [rangeD] using hlen
    · rintro env st' ⟨a, b, c, d, e, x, names, rfl, hlen, hn, lf, u⟩
      walk_at "s"
      refine endsOf_i (k names f st' hlen ?_ ?_ fn fm u lf nf0)
      · rw [List.nodup_iff_pairwise_ne, List.pairwise_iff_getElem]
        intro i1 i2 h1 h2 h12 heq
        have a1 := hn i1 names[i1] (List.getElem?_eq_getElem h1)
        have a2 := hn i2 names[i1] (by rw [heq, List.getElem?_eq_getElem h2])
        have := NameAt.inj hstep (by omega) (by omega) a1 a2
        omega
      · intro x hx
        obtain ⟨i, hi⟩ := List.getElem?_of_mem hx
        exact (hn i x hi).1
end L2.DL

namespace L2.DL
open PySem PySem.Spec PyProof.Rows
local macro_rules | `(tactic| walk_at "s") => `(tactic| try simp only [sqAsg_a, sqDrop_a, sqPar_a, sqPar3_a, sqRet_a, sqNext_a, sqSeq_a, sNext_a, sBreak_a, sCont_a, sDrop_a, sRet_a, sRetN_a, sIf_a, sAsg_a, sPar_a, sPar3_a, mVar_a, vAt_a, mC_a, mBin_a, mTest_a, bAt_a, mAnd_a, mOr_a, mNot_a, mYes_a, mAndV_a, mOrV_a, mNotV_a, mIf_a, mNil_a, mCons_a, mTup_a, mLst_a, mCall_a, mCallK_a, mMeth_a, mSl_a, mNoPart_a, iAt_a, mPart_a, mIsi_b, tysO_some, List.any_cons, List.any_nil, Bool.or_false, Bool.false_or, Bool.or_true, Bool.true_or, Int.natCast_pos, gN_a, gTup_a, gCons_a, gNil_a, gSub_a, sFor_a, mLc_a, mDc_a, wSeq_a, sqO_tup, sqO_str, sqO_ref, wRng1_a, mRev_a, revO_ref, List.getD_cons_zero, List.getD_cons_succ, ite_self, List.set_cons_zero, List.set_cons_succ, List.getElem?_cons_zero, List.getElem?_cons_succ, oAdd_int, oAdd_str, oAdd_tup, oAdd_ref, oSub_int, oMul_int, oDiv_int, oMod_int, oPow_int, oLt_int, oLe_int, oGt_int, oGe_int, oIs_nn, oIs_bn, oIs_in, oIs_sn, oIs_tn, oIs_rn, oIs_bb, oIs_nb, oIs_ib, oIs_sb, oIs_tb, oIs_rb, oIsi_int, oIsi_str, oIsi_bool, oIsi_tuple, oIsi_list, oIsi_dict, tyO_some, tyD_non, tyD_bl, tyD_int, tyD_str, tyD_tup, isi_facts, oEq_int, oNe_int, oEq_str, oNe_str, oSl_tup, oSl_str, oSl_ref, oLen_tup, oLen_str, oLen_ref, oAbs_int, oInt_int, oInt_bl, oMax_int, oMin_int, oTuple_tup, oTuple_ref, oList_tup, oList_str, oList_ref, oIx_tupE, oIx_ref, oAppend_ref, oPop_ref, oExtend_tupE, oSet_ref, isL_ref, isS_str, vO_some, ixO_lst, ixO_dicI, ixO_dicS, ixO_rodI, ixO_rodS, lsO_lst, rdO_lst, rdO_rol, lenO_lst, lenO_dic, lenO_rol, addO_lst, setO_lst, setO_dicI, setO_dicS, atI_zero, atI_one, atI_two, atI_end, startE, wipeE, List.map_cons, List.map_nil, List.length_cons, List.length_nil, List.replicate, List.cons_append, List.nil_append, Nat.reduceAdd, Nat.reduceSub, List.replicate_succ, List.replicate_zero, put_same, Nat.zero_le, Int.reduceLT, Int.reduceLE, Nat.reduceLT, Nat.reduceLeDiff, and_true, true_and, Bool.false_eq_true, ↓reduceIte, Bool.not_true, Bool.not_false, decide_true, decide_false, *])
local macro_rules | `(tactic| walk_at "i") => `(tactic| try simp only [sqIf_a, sqAsg_a, sqDrop_a, sqPar_a, sqPar3_a, sqRet_a, sqNext_a, sqSeq_a, sNext_a, sBreak_a, sCont_a, sDrop_a, sRet_a, sRetN_a, sIf_a, sAsg_a, sPar_a, sPar3_a, mVar_a, vAt_a, mC_a, mBin_a, mTest_a, bAt_a, mAnd_a, mOr_a, mNot_a, mYes_a, mAndV_a, mOrV_a, mNotV_a, mIf_a, mNil_a, mCons_a, mTup_a, mLst_a, mCall_a, mCallK_a, mMeth_a, mSl_a, mNoPart_a, iAt_a, mPart_a, mIsi_b, tysO_some, List.any_cons, List.any_nil, Bool.or_false, Bool.false_or, Bool.or_true, Bool.true_or, Int.natCast_pos, gN_a, gTup_a, gCons_a, gNil_a, gSub_a, sFor_a, mLc_a, mDc_a, wSeq_a, sqO_tup, sqO_str, sqO_ref, wRng1_a, mRev_a, revO_ref, List.getD_cons_zero, List.getD_cons_succ, ite_self, List.set_cons_zero, List.set_cons_succ, List.getElem?_cons_zero, List.getElem?_cons_succ, oAdd_int, oAdd_str, oAdd_tup, oAdd_ref, oSub_int, oMul_int, oDiv_int, oMod_int, oPow_int, oLt_int, oLe_int, oGt_int, oGe_int, oIs_nn, oIs_bn, oIs_in, oIs_sn, oIs_tn, oIs_rn, oIs_bb, oIs_nb, oIs_ib, oIs_sb, oIs_tb, oIs_rb, oIsi_int, oIsi_str, oIsi_bool, oIsi_tuple, oIsi_list, oIsi_dict, tyO_some, tyD_non, tyD_bl, tyD_int, tyD_str, tyD_tup, isi_facts, oEq_int, oNe_int, oEq_str, oNe_str, oSl_tup, oSl_str, oSl_ref, oLen_tup, oLen_str, oLen_ref, oAbs_int, oInt_int, oInt_bl, oMax_int, oMin_int, oTuple_tup, oTuple_ref, oList_tup, oList_str, oList_ref, oIx_tupE, oIx_ref, oAppend_ref, oPop_ref, oExtend_tupE, oSet_ref, isL_ref, isS_str, vO_some, ixO_lst, ixO_dicI, ixO_dicS, ixO_rodI, ixO_rodS, lsO_lst, rdO_lst, rdO_rol, lenO_lst, lenO_dic, lenO_rol, addO_lst, setO_lst, setO_dicI, setO_dicS, atI_zero, atI_one, atI_two, atI_end, startE, wipeE, List.map_cons, List.map_nil, List.length_cons, List.length_nil, List.replicate, List.cons_append, List.nil_append, Nat.reduceAdd, Nat.reduceSub, List.replicate_succ, List.replicate_zero, put_same, Nat.zero_le, Int.reduceLT, Int.reduceLE, Nat.reduceLT, Nat.reduceLeDiff, and_true, true_and, Bool.false_eq_true, ↓reduceIte, Bool.not_true, Bool.not_false, decide_true, decide_false, *])
/-! ### terms -/
abbrev Sign := Str × Int
abbrev Term := List Sign
def signD (s : Sign) : D := .tup [.str s.1, .int s.2]
def termD (t : Term) : D := .tup (t.map signD)
def TermOk (k : Nat) (t : Term) : Prop := t.length ≤ k ∧ ∀ s ∈ t, nmOk s.1
/-- how many parts follow a sign -/
def arity (s : Sign) : Nat := if s.2 = -1 then 0 else s.2.toNat
/-- so many parts, one behind another -/
def Rd : Nat → Term → Prop
  | d, [] => d = 0
  | d, s :: t => 0 < d ∧ -1 ≤ s.2 ∧ Rd (d - 1 + arity s) t
def Wf (t : Term) : Prop := Rd 1 t
def S_law_term : DSp := fun vs st Q => ∃ (n m : Addr) (x y : D) (xs ys : List Str) (k : Nat), vs = [.ref n, x, y, .int k] ∧ Deal st n m ∧ sq st n m x (xs.map D.str) ∧ sq st n m y (ys.map D.str) ∧
  0 < xs.length ∧ xs.length ≤ 1000 ∧ ys.length ≤ 1000 ∧ (∀ a ∈ xs ++ ys, nmOk a) ∧ 0 < k ∧ k ≤ 1000 ∧ ∀ t st', TermOk k t → Wf t → Up n m st st' → Q (termD t) st'
/-- _law_term(deal, names, letters, size): 0 deal 1 names 2 letters 3 size 4 found 5 due 6 room 7 many -/
def t_law_term : MS := sSeq (sPar 4 5 (mCons (mLst (mNil)) (mCons (mC (.int 1)) (mNil))))
    (sSeq (sWhile (mTest (mBin oGt (mVar 5) (mC (.int 0)))) (sSeq (sAsg (mCall oMax (mCons (mC (.int 0)) (mCons (mBin oSub (mBin oSub (mVar 3) (mCall oLen (mCons (mVar 4) (mNil)))) (mVar 5)) (mNil)))) (gN 6))
    (sSeq (sAsg (mCall oMin (mCons (mVar 6) (mCons (mCall S_law_of (mCons (mVar 0) (mCons (mLst (mCons (mC (.int 0)) (mCons (mC (.int 1)) (mCons (mC (.int 1)) (mCons (mC (.int 1)) (mCons (mC (.int 2)) (mCons (mC (.int 2)) (mCons (mC (.int 3)) (mCons (mC (.int 4)) (mCons (mVar 6) (mNil))))))))))) (mNil)))) (mNil)))) (gN 7))
    (sSeq (sIf (mAnd (mTest (mBin oEq (mVar 7) (mC (.int 0)))) (mAnd (mTest (mBin oGt (mCall oLen (mCons (mVar 2) (mNil))) (mC (.int 0)))) (mTest (mBin oGt (mCall S_law_any (mCons (mVar 0) (mCons (mC (.int 3)) (mNil)))) (mC (.int 0)))))) (sDrop (mMeth isL oAppend (mVar 4) (mCons (mTup (mCons (mCall S_law_of (mCons (mVar 0) (mCons (mVar 2) (mNil)))) (mCons (mBin oSub (mC (.int 0)) (mC (.int 1))) (mNil)))) (mNil)))) (sDrop (mMeth isL oAppend (mVar 4) (mCons (mTup (mCons (mCall S_law_of (mCons (mVar 0) (mCons (mVar 1) (mNil)))) (mCons (mVar 7) (mNil)))) (mNil)))))
    (sAsg (mBin oSub (mBin oAdd (mVar 5) (mVar 7)) (mC (.int 1))) (gN 5))))))
    (sRet (mCall oTuple (mCons (mVar 4) (mNil)))))
theorem sq.keep {st st' : Sto} {n m : Addr} {x : D} {xs : List D} (h : sq st n m x xs) (u : Keep st st') : sq st' n m x xs := by
  cases x <;> try exact h
  exact ⟨h.1, h.2.1, u.l h.2.2⟩
theorem kp_law_term : Keeps 4 8 S_law_term t_law_term := by
  refine ⟨fun ds st Q ⟨n, m, x, y, xs, ys, k, e, _⟩ => by rw [e]; rfl, fun ds st Q ⟨n, m, x, y, xs, ys, k, e, hd, hx, hy, l0, l1, l2, hok, k0, k1, q⟩ => ?_⟩
  subst e
  have z9 : 9 ≤ sizeLine := by decide
  have z2 : 2 ≤ sizeLine := by decide
  unfold t_law_term
  walk_at "s"
  intro p hp
  obtain ⟨pn, pm⟩ := hp.deal hd
  refine sSeq_i (fun env st' => ∃ a b c d e f g, ∃ t : Term, env = [a, b, c, d, some (.ref p), e, f, g] ∧ st' p = some (.lst (t.map signD)) ∧ TermOk k t ∧ Wf t ∧ Up n m st st') (fun nx hnx => ?_) ?_
  · refine ⟨fun j env st' => ∃ (due : Int) (f g : Option D) (t : Term), env = [some (.ref n), some x, some y, some (.int k), some (.ref p), some (.int due), f, g] ∧ st' p = some (.lst (t.map signD)) ∧ TermOk k t ∧ Up n m st st' ∧ 0 ≤ due ∧ t.length + due ≤ k ∧ k - t.length = j ∧ (∀ t', Rd due.toNat t' → Wf (t ++ t')), ⟨_, 1, none, none, [], rfl, put_same, ⟨by simp, by simp⟩, (Up.refl hd).put hp pn pm, by omega, by simp; omega, rfl, fun t' h => h⟩, ?_⟩
    rintro j env st1 ⟨due, f, g, t, rfl, lp, ht, u, d0, dk, hj, hw⟩
    by_cases hdue : 0 < due
    · clear hnx q hd
      have hx1 : sq st1 n m x (xs.map D.str) := hx.up u
      have hy1 : sq st1 n m y (ys.map D.str) := hy.up u
      walk_at "s"
      have er : (if (k : Int) - ((t.map signD).length : Nat) - due > 0 then (k : Int) - ((t.map signD).length : Nat) - due else 0) = ((k - t.length - due.toNat : Nat) : Int) := by
        rw [List.length_map]
        split <;> omega
      rw [er]
      obtain ⟨room, hroom⟩ : ∃ room : Nat, k - t.length - due.toNat = room := ⟨_, rfl⟩
      rw [hroom]
      clear er
      refine fun p2 hp2 => ?_
      obtain ⟨p2n, p2m⟩ := hp2.deal u.deal
      have lp2 := (Keep.put (o := .lst [.int 0, .int 1, .int 1, .int 1, .int 2, .int 2, .int 3, .int 4, .int room]) hp2).l lp
      refine ⟨n, m, .ref p2, _, rfl, u.deal.put p2n p2m, ⟨p2n, p2m, put_same⟩, by simp, by simp, fun sd st3 hsd u3 => ?_⟩
      obtain ⟨sv, rfl, hsv⟩ : ∃ sv : Int, sd = .int sv ∧ 0 ≤ sv := by
        simp only [List.mem_cons, List.not_mem_nil, or_false] at hsd
        rcases hsd with rfl | rfl | rfl | rfl | rfl | rfl | rfl | rfl | rfl <;> exact ⟨_, rfl, by omega⟩
      have lp3 := u3.l pn pm lp2
      have uu3 := (u.then (Keep.put hp2)).trans u3
      have hx3 := (hx1.keep (Keep.put hp2)).up u3
      have hy3 := (hy1.keep (Keep.put hp2)).up u3
      clear lp lp2 u hx1 hy1 u3 hp2 hsd
      walk_at "s"
      obtain ⟨many, hmany, hmr⟩ : ∃ many : Nat, (if sv < (room : Int) then sv else (room : Int)) = many ∧ many ≤ room := by
        split
        · exact ⟨sv.toNat, by omega, by omega⟩
        · exact ⟨room, rfl, Nat.le_refl _⟩
      rw [hmany]
      clear hmany hsv
      refine sSeq_i (fun env st' => ∃ a : Sign, env = [some (.ref n), some x, some y, some (.int k), some (.ref p), some (.int due), some (.int room), some (.int many)] ∧ st' p = some (.lst ((t ++ [a]).map signD)) ∧ nmOk a.1 ∧ (-1 ≤ a.2 ∧ arity a = many) ∧ Up n m st st') (fun nx2 hnx2 => ?_) ?_
      · have lt3 : (t.map signD).length < sizeLine := by
          rw [List.length_map, szL]
          have := ht.1
          omega
        have fin : ∀ st4 (a : Sign), nmOk a.1 → (-1 ≤ a.2 ∧ arity a = many) → Up n m st st4 → st4 p = some (.lst (t.map signD)) → lsO (st4 p) fun zs => zs.length < sizeLine ∧ nx2 [some (.ref n), some x, some y, some (.int k), some (.ref p), some (.int due), some (.int room), some (.int many)] (put st4 p (.lst (zs ++ [signD a]))) := by
          intro st4 a ha har u4 l4
          rw [l4, lsO_lst]
          refine ⟨lt3, hnx2 _ _ ⟨a, rfl, ?_, ha, har, u4.put hp pn pm⟩⟩
          rw [put_same]; simp
        clear hnx2
        have small : ∀ st4, sq st4 n m x (xs.map D.str) → Up n m st st4 → st4 p = some (.lst (t.map signD)) →
            S_law_of [.ref n, x] st4 fun d st5 => lsO (st5 p) fun zs => zs.length < sizeLine ∧ nx2 [some (.ref n), some x, some y, some (.int k), some (.ref p), some (.int due), some (.int room), some (.int many)] (put st5 p (.lst (zs ++ [.tup [d, .int many]]))) := by
          intro st4 h4 u4 l4
          refine ⟨n, m, x, _, rfl, u4.deal, h4, by rw [List.length_map]; omega, by rw [List.length_map]; omega, fun d st5 hd u5 => ?_⟩
          obtain ⟨a, ha, rfl⟩ := List.mem_map.mp hd
          exact fin st5 (a, many) (hok a (List.mem_append_left _ ha)) ⟨by show (-1 : Int) ≤ (many : Int); omega, by unfold arity; rw [if_neg (by show ¬ ((many : Int) = -1); omega)]; rfl⟩ (u4.trans u5) (u5.l pn pm l4)
        have e2 := fun Q => hy3.len (Q := Q)
        rw [sIf_a]
        walk_at "s"
        clear e2
        split
        · rename_i hm0
          have hm0' : many < 1 := by
            have : many = 0 := by simpa using hm0
            omega
          clear hm0
          split
          · rename_i hys
            have hys' : 0 < (ys.map D.str).length := by simpa using hys
            refine ⟨n, m, 3, rfl, uu3.deal, by omega, by omega, fun c st4 _ _ u4 => ?_⟩
            have lp4 := u4.l pn pm lp3
            have hx4 := hx3.up u4
            have hy4 := hy3.up u4
            have uu4 := uu3.trans u4
            have sm := small st4 hx4 uu4 lp4
            clear lp3 uu3 hx3 hy3 u4 small
            walk_at "s"
            split
            · refine ⟨n, m, y, _, rfl, uu4.deal, hy4, hys', by rw [List.length_map]; omega, fun d st5 hd u5 => ?_⟩
              obtain ⟨a, ha, rfl⟩ := List.mem_map.mp hd
              exact fin st5 (a, 0 - 1) (hok a (List.mem_append_right _ ha)) ⟨by show (-1 : Int) ≤ 0 - 1; omega, by rw [show many = 0 by omega]; rfl⟩ (uu4.trans u5) (u5.l pn pm lp4)
            · trivial
          · trivial
        · trivial
      · rintro env st4 ⟨a, rfl, lp4, ha, har, u4⟩
        walk_at "s"
        have e1 : (t ++ [a]).length = t.length + 1 := by rw [List.length_append]; rfl
        refine ⟨k - (t ++ [a]).length, ?_, due + many - 1, _, _, t ++ [a], rfl, rfl, ⟨?_, ?_⟩, ?_, ?_, rfl, fun t' h => ?_⟩
        · omega
        · omega
        · intro s hs
          rcases List.mem_append.mp hs with hs | hs
          · exact ht.2 s hs
          · rw [List.mem_singleton.mp hs]; exact ha
        · omega
        · omega
        · rw [List.append_assoc]
          refine hw _ ⟨by omega, har.1, ?_⟩
          rw [har.2]
          have e : due.toNat - 1 + many = (due + many - 1).toNat := by omega
          rw [e]
          exact h
    · have hw' : Wf t := by
        have := hw [] (show due.toNat = 0 by omega)
        rw [List.append_nil] at this
        exact this
      have hnx' := hnx [some (.ref n), some x, some y, some (.int k), some (.ref p), some (.int due), f, g] st1 ⟨_, _, _, _, _, _, _, t, rfl, lp, ht, hw', u⟩
      clear hnx
      walk_at "s"
  · rintro env st' ⟨a, b, c, d, e, f, g, t, rfl, lp, ht, hw, u⟩
    walk_at "s"
    exact endsOf_i (q t st' ht hw u)
end L2.DL

namespace L2.DL
open PySem PySem.Spec PyProof.Rows
/-! ### data compared by == : no truth values, texts of real signs -/
def okC : D → Bool
  | .non => true
  | .int _ => true
  | .str x => PyData.strOk x
  | .tup xs => okCs xs
  | _ => false
where okCs : List D → Bool
  | [] => true
  | x :: xs => okC x && okCs xs
def depC : D → Nat
  | .tup xs => depCs xs + 1
  | _ => 0
where depCs : List D → Nat
  | [] => 0
  | x :: xs => max (depC x) (depCs xs)
mutual
theorem okC_py : ∀ (x : D), okC x = true → ∃ p, toPy x = some p ∧ p.canLay0 = true ∧ p.depth = depC x
  | .non, _ => ⟨_, rfl, rfl, rfl⟩
  | .int i, _ => ⟨_, rfl, rfl, rfl⟩
  | .str x, h => ⟨_, rfl, h, rfl⟩
  | .bl _, h => by cases h
  | .ty _, h => by cases h
  | .ref _, h => by cases h
  | .tup xs, h => by
    obtain ⟨ps, h1, h2, h3⟩ := okCs_py xs h
    exact ⟨.tuple ps, by rw [toPy, h1]; rfl, h2, by rw [PyData.depth, depC, h3]⟩
theorem okCs_py : ∀ (xs : List D), okC.okCs xs = true → ∃ ps, toPys xs = some ps ∧ PyData.canLayAll0 ps = true ∧ PyData.depthAll ps = depC.depCs xs
  | [], _ => ⟨[], rfl, rfl, rfl⟩
  | x :: xs, h => by
    rw [okC.okCs, Bool.and_eq_true] at h
    obtain ⟨p, a1, a2, a3⟩ := okC_py x h.1
    obtain ⟨ps, b1, b2, b3⟩ := okCs_py xs h.2
    exact ⟨p :: ps, by rw [toPys, a1, b1]; rfl, by rw [PyData.canLayAll0, a2, b2]; rfl, by rw [PyData.depthAll, depC.depCs, a3, b3]⟩
end
mutual
theorem okC_eqv : ∀ (x y : D) (p q : PyData), okC x = true → okC y = true → toPy x = some p → toPy y = some q → (p.eqv q = true ↔ x = y)
  | .bl _, _, _, _, h, _, _, _ => by cases h
  | .ty _, _, _, _, h, _, _, _ => by cases h
  | .ref _, _, _, _, h, _, _, _ => by cases h
  | .non, y, p, q, _, hy, e1, e2 => by
    cases e1
    cases y <;> try (cases hy; done)
    · cases e2; simp [PyData.eqv]
    · cases e2; simp [PyData.eqv]
    · cases e2; simp [PyData.eqv]
    · rw [toPy, Option.map_eq_some_iff] at e2
      obtain ⟨ps, _, rfl⟩ := e2
      simp [PyData.eqv]
  | .int i, y, p, q, _, hy, e1, e2 => by
    cases e1
    cases y <;> try (cases hy; done)
    · cases e2; simp [PyData.eqv]
    · cases e2; simp [PyData.eqv]
    · cases e2; simp [PyData.eqv]
    · rw [toPy, Option.map_eq_some_iff] at e2
      obtain ⟨ps, _, rfl⟩ := e2
      simp [PyData.eqv]
  | .str i, y, p, q, _, hy, e1, e2 => by
    cases e1
    cases y <;> try (cases hy; done)
    · cases e2; simp [PyData.eqv]
    · cases e2; simp [PyData.eqv]
    · cases e2; simp [PyData.eqv]
    · rw [toPy, Option.map_eq_some_iff] at e2
      obtain ⟨ps, _, rfl⟩ := e2
      simp [PyData.eqv]
  | .tup xs, y, p, q, hx, hy, e1, e2 => by
    rw [toPy, Option.map_eq_some_iff] at e1
    obtain ⟨ps, e1, rfl⟩ := e1
    cases y <;> try (cases hy; done)
    · cases e2; simp [PyData.eqv]
    · cases e2; simp [PyData.eqv]
    · cases e2; simp [PyData.eqv]
    · rename_i ys
      rw [toPy, Option.map_eq_some_iff] at e2
      obtain ⟨qs, e2, rfl⟩ := e2
      rw [PyData.eqv, okCs_eqv xs ys ps qs hx hy e1 e2, D.tup.injEq]
theorem okCs_eqv : ∀ (xs ys : List D) (ps qs : List PyData), okC.okCs xs = true → okC.okCs ys = true → toPys xs = some ps → toPys ys = some qs → (PyData.eqvAll ps qs = true ↔ xs = ys)
  | [], [], ps, qs, _, _, e1, e2 => by cases e1; cases e2; simp [PyData.eqvAll]
  | [], y :: ys, ps, qs, _, hy, e1, e2 => by
    cases e1
    simp only [toPys, Option.bind_eq_some_iff, Option.map_eq_some_iff] at e2
    obtain ⟨q, _, qs', _, rfl⟩ := e2
    simp [PyData.eqvAll]
  | x :: xs, [], ps, qs, hx, _, e1, e2 => by
    cases e2
    simp only [toPys, Option.bind_eq_some_iff, Option.map_eq_some_iff] at e1
    obtain ⟨q, _, qs', _, rfl⟩ := e1
    simp [PyData.eqvAll]
  | x :: xs, y :: ys, ps, qs, hx, hy, e1, e2 => by
    simp only [toPys, Option.bind_eq_some_iff, Option.map_eq_some_iff] at e1 e2
    obtain ⟨p, a1, ps', a2, rfl⟩ := e1
    obtain ⟨q, b1, qs', b2, rfl⟩ := e2
    rw [okC.okCs, Bool.and_eq_true] at hx hy
    rw [PyData.eqvAll, Bool.and_eq_true, okC_eqv x y p q hx.1 hy.1 a1 b1, okCs_eqv xs ys ps' qs' hx.2 hy.2 a2 b2, List.cons.injEq]
end
theorem pyOf_okC {st : Sto} {x : D} {p : PyData} (h : okC x = true) (e : toPy x = some p) : pyOf st x = some p := by
  cases x <;> first | exact e | cases h
open Classical in
theorem oEq_dat {x y : D} {st : Sto} {Q : DK} (hx : okC x = true) (hy : okC y = true) (dx : depC x ≤ 64) (dy : depC y ≤ 64) (q : Q (.bl (decide (x = y))) st) : oEq x y st Q := by
  obtain ⟨p, a1, a2, a3⟩ := okC_py x hx
  obtain ⟨r, b1, b2, b3⟩ := okC_py y hy
  refine .inr ⟨p, r, pyOf_okC hx a1, pyOf_okC hy b1, by unfold SeqAt.shaped; rw [a2, a3]; simpa using dx, by unfold SeqAt.shaped; rw [b2, b3]; simpa using dy, ?_⟩
  have e : p.eqv r = decide (x = y) := by
    rw [Bool.eq_iff_iff, okC_eqv x y p r hx hy a1 b1, decide_eq_true_eq]
  rw [e]
  exact q
open Classical in
theorem oNe_dat {x y : D} {st : Sto} {Q : DK} (hx : okC x = true) (hy : okC y = true) (dx : depC x ≤ 64) (dy : depC y ≤ 64) (q : Q (.bl (!decide (x = y))) st) : oNe x y st Q := by
  obtain ⟨p, a1, a2, a3⟩ := okC_py x hx
  obtain ⟨r, b1, b2, b3⟩ := okC_py y hy
  refine .inr ⟨p, r, pyOf_okC hx a1, pyOf_okC hy b1, by unfold SeqAt.shaped; rw [a2, a3]; simpa using dx, by unfold SeqAt.shaped; rw [b2, b3]; simpa using dy, ?_⟩
  have e : p.eqv r = decide (x = y) := by
    rw [Bool.eq_iff_iff, okC_eqv x y p r hx hy a1 b1, decide_eq_true_eq]
  rw [e]
  exact q
theorem nmOk_str {x : Str} (h : nmOk x) : PyData.strOk x = true := by
  have h := h.1
  unfold azOk at h
  unfold PyData.strOk
  rw [← Array.all_toList]
  rw [List.all_eq_true] at h ⊢
  intro c hc
  have := h c hc
  simp at this ⊢
  omega
theorem signD_inj {a b : Sign} (h : signD a = signD b) : a = b := by
  unfold signD at h
  simp only [D.tup.injEq, List.cons.injEq, D.str.injEq, D.int.injEq, and_true] at h
  exact Prod.ext h.1 h.2
theorem map_inj {α β : Type} {f : α → β} (hf : ∀ a b, f a = f b → a = b) : ∀ {l m : List α}, l.map f = m.map f → l = m
  | [], [], _ => rfl
  | [], _ :: _, h => by cases h
  | _ :: _, [], h => by cases h
  | a :: l, b :: m, h => by
    simp only [List.map_cons, List.cons.injEq] at h
    rw [hf _ _ h.1, map_inj hf h.2]
theorem termD_inj {a b : Term} (h : termD a = termD b) : a = b := map_inj (fun _ _ => signD_inj) (D.tup.inj h)
theorem okC_term {t : Term} (h : ∀ s ∈ t, nmOk s.1) : okC (termD t) = true ∧ depC (termD t) ≤ 2 := by
  have key : okC.okCs (t.map signD) = true ∧ depC.depCs (t.map signD) ≤ 1 := by
    induction t with
    | nil => exact ⟨rfl, by decide⟩
    | cons s t ih =>
      obtain ⟨i1, i2⟩ := ih fun s hs => h s (List.mem_cons_of_mem _ hs)
      have h1 := nmOk_str (h s (List.mem_cons_self ..))
      refine ⟨?_, ?_⟩
      · rw [List.map_cons, okC.okCs, i1, signD]
        simp [okC, okC.okCs, h1]
      · rw [List.map_cons, depC.depCs, signD]
        simp only [depC, depC.depCs]
        omega
  exact ⟨key.1, by unfold termD; rw [depC]; omega⟩
theorem oNe_term {a b : Term} {st : Sto} {Q : DK} (ha : ∀ s ∈ a, nmOk s.1) (hb : ∀ s ∈ b, nmOk s.1) (q : Q (.bl (decide (a ≠ b))) st) : oNe (termD a) (termD b) st Q := by
  obtain ⟨a1, a2⟩ := okC_term ha
  obtain ⟨b1, b2⟩ := okC_term hb
  refine oNe_dat a1 b1 (by omega) (by omega) ?_
  have e : (!@decide (termD a = termD b) (Classical.propDecidable _)) = decide (a ≠ b) := by
    by_cases h : a = b
    · subst h; simp
    · have : termD a ≠ termD b := fun e => h (termD_inj e)
      simp [h, this]
  rw [e]
  exact q
theorem datD_term (t : Term) : datD (termD t) = true := datDs_of fun d hd => by
  obtain ⟨s, _, rfl⟩ := List.mem_map.mp hd
  rfl
theorem wD_term (t : Term) : wD (termD t) = 1 + 3 * t.length := by
  have : wD.wDs (t.map signD) = 3 * t.length := by
    induction t with
    | nil => rfl
    | cons s t ih =>
      rw [List.map_cons, wD.wDs, ih, List.length_cons]
      have : wD (signD s) = 3 := rfl
      omega
  unfold termD
  rw [wD, this]
end L2.DL

namespace L2.DL
open PySem PySem.Spec PyProof.Rows
local macro_rules | `(tactic| walk_at "s") => `(tactic| try simp only [sqAsg_a, sqDrop_a, sqPar_a, sqPar3_a, sqRet_a, sqNext_a, sqSeq_a, sNext_a, sBreak_a, sCont_a, sDrop_a, sRet_a, sRetN_a, sIf_a, sAsg_a, sPar_a, sPar3_a, mVar_a, vAt_a, mC_a, mBin_a, mTest_a, bAt_a, mAnd_a, mOr_a, mNot_a, mYes_a, mAndV_a, mOrV_a, mNotV_a, mIf_a, mNil_a, mCons_a, mTup_a, mLst_a, mCall_a, mCallK_a, mMeth_a, mSl_a, mNoPart_a, iAt_a, mPart_a, mIsi_b, tysO_some, List.any_cons, List.any_nil, Bool.or_false, Bool.false_or, Bool.or_true, Bool.true_or, Int.natCast_pos, gN_a, gTup_a, gCons_a, gNil_a, gSub_a, sFor_a, mLc_a, mDc_a, wSeq_a, sqO_tup, sqO_str, sqO_ref, wRng1_a, mRev_a, revO_ref, List.getD_cons_zero, List.getD_cons_succ, ite_self, List.set_cons_zero, List.set_cons_succ, List.getElem?_cons_zero, List.getElem?_cons_succ, oAdd_int, oAdd_str, oAdd_tup, oAdd_ref, oSub_int, oMul_int, oDiv_int, oMod_int, oPow_int, oLt_int, oLe_int, oGt_int, oGe_int, oIs_nn, oIs_bn, oIs_in, oIs_sn, oIs_tn, oIs_rn, oIs_bb, oIs_nb, oIs_ib, oIs_sb, oIs_tb, oIs_rb, oIsi_int, oIsi_str, oIsi_bool, oIsi_tuple, oIsi_list, oIsi_dict, tyO_some, tyD_non, tyD_bl, tyD_int, tyD_str, tyD_tup, isi_facts, oEq_int, oNe_int, oEq_str, oNe_str, oSl_tup, oSl_str, oSl_ref, oLen_tup, oLen_str, oLen_ref, oAbs_int, oInt_int, oInt_bl, oMax_int, oMin_int, oTuple_tup, oTuple_ref, oList_tup, oList_str, oList_ref, oIx_tupE, oIx_ref, oAppend_ref, oPop_ref, oExtend_tupE, oSet_ref, isL_ref, isS_str, vO_some, ixO_lst, ixO_dicI, ixO_dicS, ixO_rodI, ixO_rodS, lsO_lst, rdO_lst, rdO_rol, lenO_lst, lenO_dic, lenO_rol, addO_lst, setO_lst, setO_dicI, setO_dicS, atI_zero, atI_one, atI_two, atI_end, startE, wipeE, List.map_cons, List.map_nil, List.length_cons, List.length_nil, List.replicate, List.cons_append, List.nil_append, Nat.reduceAdd, Nat.reduceSub, List.replicate_succ, List.replicate_zero, put_same, Nat.zero_le, Int.reduceLT, Int.reduceLE, Nat.reduceLT, Nat.reduceLeDiff, and_true, true_and, Bool.false_eq_true, ↓reduceIte, Bool.not_true, Bool.not_false, decide_true, decide_false, *])
local macro_rules | `(tactic| walk_at "i") => `(tactic| try simp only [sqIf_a, sqAsg_a, sqDrop_a, sqPar_a, sqPar3_a, sqRet_a, sqNext_a, sqSeq_a, sNext_a, sBreak_a, sCont_a, sDrop_a, sRet_a, sRetN_a, sIf_a, sAsg_a, sPar_a, sPar3_a, mVar_a, vAt_a, mC_a, mBin_a, mTest_a, bAt_a, mAnd_a, mOr_a, mNot_a, mYes_a, mAndV_a, mOrV_a, mNotV_a, mIf_a, mNil_a, mCons_a, mTup_a, mLst_a, mCall_a, mCallK_a, mMeth_a, mSl_a, mNoPart_a, iAt_a, mPart_a, mIsi_b, tysO_some, List.any_cons, List.any_nil, Bool.or_false, Bool.false_or, Bool.or_true, Bool.true_or, Int.natCast_pos, gN_a, gTup_a, gCons_a, gNil_a, gSub_a, sFor_a, mLc_a, mDc_a, wSeq_a, sqO_tup, sqO_str, sqO_ref, wRng1_a, mRev_a, revO_ref, List.getD_cons_zero, List.getD_cons_succ, ite_self, List.set_cons_zero, List.set_cons_succ, List.getElem?_cons_zero, List.getElem?_cons_succ, oAdd_int, oAdd_str, oAdd_tup, oAdd_ref, oSub_int, oMul_int, oDiv_int, oMod_int, oPow_int, oLt_int, oLe_int, oGt_int, oGe_int, oIs_nn, oIs_bn, oIs_in, oIs_sn, oIs_tn, oIs_rn, oIs_bb, oIs_nb, oIs_ib, oIs_sb, oIs_tb, oIs_rb, oIsi_int, oIsi_str, oIsi_bool, oIsi_tuple, oIsi_list, oIsi_dict, tyO_some, tyD_non, tyD_bl, tyD_int, tyD_str, tyD_tup, isi_facts, oEq_int, oNe_int, oEq_str, oNe_str, oSl_tup, oSl_str, oSl_ref, oLen_tup, oLen_str, oLen_ref, oAbs_int, oInt_int, oInt_bl, oMax_int, oMin_int, oTuple_tup, oTuple_ref, oList_tup, oList_str, oList_ref, oIx_tupE, oIx_ref, oAppend_ref, oPop_ref, oExtend_tupE, oSet_ref, isL_ref, isS_str, vO_some, ixO_lst, ixO_dicI, ixO_dicS, ixO_rodI, ixO_rodS, lsO_lst, rdO_lst, rdO_rol, lenO_lst, lenO_dic, lenO_rol, addO_lst, setO_lst, setO_dicI, setO_dicS, atI_zero, atI_one, atI_two, atI_end, startE, wipeE, List.map_cons, List.map_nil, List.length_cons, List.length_nil, List.replicate, List.cons_append, List.nil_append, Nat.reduceAdd, Nat.reduceSub, List.replicate_succ, List.replicate_zero, put_same, Nat.zero_le, Int.reduceLT, Int.reduceLE, Nat.reduceLT, Nat.reduceLeDiff, and_true, true_and, Bool.false_eq_true, ↓reduceIte, Bool.not_true, Bool.not_false, decide_true, decide_false, *])
theorem cutL_ints (ns : List Int) (lo hi : Option Int) : cutL (ns.map D.int) lo hi = (cutL ns lo hi).map D.int := by
  unfold cutL
  rw [List.length_map, ← List.map_drop, ← List.map_take]
theorem cutL_strs (ns : List Str) (lo hi : Option Int) : cutL (ns.map D.str) lo hi = (cutL ns lo hi).map D.str := by
  unfold cutL
  rw [List.length_map, ← List.map_drop, ← List.map_take]
theorem cutL_to {α : Type} (xs : List α) (k : Nat) : cutL xs none (some k) = xs.take k := by
  unfold cutL
  rw [HT.sIx_none, HT.sIx_nat, Nat.sub_zero, List.drop_zero]
  rw [← List.take_eq_take_min]
theorem cutL_from {α : Type} (xs : List α) (k : Nat) : cutL xs (some k) none = xs.drop k := by
  unfold cutL
  rw [HT.sIx_none, HT.sIx_nat]
  by_cases h : k ≤ xs.length
  · rw [Nat.min_eq_left h, List.take_of_length_le (by rw [List.length_drop]; omega)]
  · rw [Nat.min_eq_right (by omega), List.drop_of_length_le (by omega), List.drop_of_length_le (by omega)]
    simp
theorem kp_law_deal : Keeps 2 6 S_law_deal t_law_deal := by
  refine ⟨fun ds st Q ⟨a, ns, s, e, _⟩ => by rw [e]; rfl, fun ds st Q ⟨a, ns, s, e, la, s0, s1, q⟩ => ?_⟩
  subst e
  have z2 : 2 ≤ sizeLine := by decide
  have c1 : CPow 10 64 := by unfold CPow; decide
  have c2 : CPow 10 18 := by unfold CPow; decide
  have p64 : (10 : Int) ^ Int.toNat 64 = 10000000000000000000000000000000000000000000000000000000000000000 := by decide +kernel
  unfold t_law_deal
  walk_at "s"
  refine ⟨by unfold CMulW; decide +kernel, by unfold CMulW; decide +kernel, by unfold CMulW; decide +kernel, by unfold CMulW; decide +kernel, by unfold CMulW; decide +kernel, fun p hp => ?_⟩
  have mpos : (0 : Int) < 10000000000000000000000000000000000000000000000000000000000000000 *
                                      10000000000000000000000000000000000000000000000000000000000000000 *
                                    10000000000000000000000000000000000000000000000000000000000000000 *
                                  10000000000000000000000000000000000000000000000000000000000000000 *
                                10000000000000000000000000000000000000000000000000000000000000000 *
                              10000000000000000000000000000000000000000000000000000000000000000 := by decide +kernel
  generalize (10000000000000000000000000000000000000000000000000000000000000000 : Int) *
                                      10000000000000000000000000000000000000000000000000000000000000000 *
                                    10000000000000000000000000000000000000000000000000000000000000000 *
                                  10000000000000000000000000000000000000000000000000000000000000000 *
                                10000000000000000000000000000000000000000000000000000000000000000 *
                              10000000000000000000000000000000000000000000000000000000000000000 = most at *
  rw [cutL_ints]
  have hl63 : (cutL ns none (some 63)).length ≤ 63 := by
    have := cutL_to ns 63
    rw [show ((63 : Nat) : Int) = 63 from rfl] at this
    rw [this, List.length_take]
    omega
  generalize cutL ns none (some 63) = cs at *
  have lp : put st p (.lst (cs.map D.int)) p = some (.lst (cs.map D.int)) := put_same
  generalize put st p (.lst (cs.map D.int)) = st1 at *
  clear la p64 hp
  refine lc_keep (onI fun c => some (.int ((if c < 0 then -c else c) % most))) (fun st' u => by rw [u.l lp]; rfl) (by rw [List.length_map, szL]; omega) (fun y hy st2 u2 P N hP hN => ?_) fun p2 st2 hp2 u2 lp2 => ?_
  · obtain ⟨c, hc, rfl⟩ := List.mem_map.mp hy
    have h1 := hP _ st2 rfl .refl
    clear hP hN lp
    walk_at "s"
  · rw [onI_map, fm_some] at lp2
    obtain ⟨ds, hds, hl, hn⟩ : ∃ ds : List Int, (cs.map fun c => D.int ((if c < 0 then -c else c) % most)) = ds.map D.int ∧ ds.length ≤ 63 ∧ ∀ d ∈ ds, 0 ≤ d := by
      refine ⟨cs.map fun c => (if c < 0 then -c else c) % most, by rw [List.map_map]; rfl, by rw [List.length_map]; exact hl63, fun d hd => ?_⟩
      obtain ⟨c, _, rfl⟩ := List.mem_map.mp hd
      exact Int.emod_nonneg _ (by omega)
    rw [hds] at lp2
    clear hds lp u2 hp2 hl63
    have cm : CMulW 7919 s := wide_mul (a := 20) (b := 20) (by omega) (by omega) (by omega) (by omega) (by omega)
    walk_at "s"
    refine sSeq_i (fun env st' => ∃ mix x, env = [some (.ref a), some (.int s), some (.int most), some (.ref p2), some (.int mix), x] ∧ 0 ≤ mix ∧ mix < 2147483647 ∧ st' p2 = some (.lst (ds.map D.int))) (fun nx hnx => ?_) ?_
    · walk_at "s"
      refine ⟨fun i env st' => ∃ mix x, env = [some (.ref a), some (.int s), some (.int most), some (.ref p2), some (.int mix), x] ∧ 0 ≤ mix ∧ mix < 2147483647 ∧ st' p2 = some (.lst (ds.map D.int)), ⟨_, none, rfl, by omega, by omega, lp2⟩, ?_, ?_, ?_⟩
      · rintro i env st' _ ⟨_, _, _, _, _, l⟩
        rw [l]; rfl
      · rintro i y env st' hy ⟨mix, x, rfl, m0, m1, l⟩
        clear hnx lp2 q
        rw [List.getElem?_map, Option.map_eq_some_iff] at hy
        obtain ⟨c, hc, rfl⟩ := hy
        have cm2 : CMulW mix 69621 := wide_mul (a := 31) (b := 20) (by omega) (by omega) (by omega) (by omega) (by omega)
        walk_at "s"
        exact ⟨_, _, rfl, Int.emod_nonneg _ (by omega), Int.emod_lt_of_pos _ (by omega)⟩
      · rintro env st' ⟨mix, x, rfl, m0, m1, l⟩
        exact hnx _ _ ⟨mix, x, rfl, m0, m1, l⟩
    · rintro env st' ⟨mix, x, rfl, m0, m1, l⟩
      clear lp2
      walk_at "s"
      refine lc_keep (onI fun c => if (10 : Int) ^ Int.toNat 18 ≤ c then some (.int c) else none) (fun st' u => by rw [u.l l]; rfl) (by rw [List.length_map, szL]; omega) (fun y hy st2 u2 P N hP hN => ?_) fun p3 st3 hp3 u3 lp3 => ?_
      · obtain ⟨c, hc, rfl⟩ := List.mem_map.mp hy
        clear l
        walk_at "s"
        by_cases h : (10 : Int) ^ Int.toNat 18 ≤ c
        · rw [if_pos (by simpa using h)]
          have h1 := hP (.int c) st2 (by rw [onI]; rw [if_pos h]) .refl
          clear hP hN
          walk_at "s"
        · rw [if_neg (by simpa using h)]
          exact hN st2 (by rw [onI]; rw [if_neg h]) .refl
      · rw [onI_map] at lp3
        have e : (ds.filterMap fun c => if (10 : Int) ^ Int.toNat 18 ≤ c then some (D.int c) else none) = (ds.filter fun c => decide ((10 : Int) ^ Int.toNat 18 ≤ c)).map D.int := by
          clear lp3 l hl hn
          induction ds with
          | nil => rfl
          | cons c ds ih =>
            by_cases h : (10 : Int) ^ Int.toNat 18 ≤ c
            · rw [List.filterMap_cons_some (b := .int c) (by rw [if_pos h]), ih, List.filter_cons_of_pos (by simpa using h), List.map_cons]
            · rw [List.filterMap_cons_none (by rw [if_neg h]), ih, List.filter_cons_of_neg (by simpa using h)]
        rw [e] at lp3
        clear l
        walk_at "s"
        rw [← List.map_reverse]
        have hfl := List.length_filter_le (fun c => decide ((10 : Int) ^ Int.toNat 18 ≤ c)) ds
        have hfn : ∀ c ∈ ds.filter (fun c => decide ((10 : Int) ^ Int.toNat 18 ≤ c)), 0 ≤ c := fun c hc => hn c (List.mem_filter.mp hc).1
        generalize ds.filter (fun c => decide ((10 : Int) ^ Int.toNat 18 ≤ c)) = fs at *
        intro m hm n hn2
        have nm : n ≠ m := hn2.ne put_same
        refine endsOf_i (q n m _ ⟨fs.reverse, mix, put_same, by rw [put_ne nm.symm]; exact put_same, fun c hc => hfn c (List.mem_reverse.mp hc), m0, m1, by rw [List.length_reverse]; omega⟩)
end L2.DL

namespace L2.DL
open PySem PySem.Spec PyProof.Rows
local macro_rules | `(tactic| walk_at "s") => `(tactic| try simp only [mNeNil_a, mEqNil_a, nilO_ref, mRevS_a, rvsO_str, okPy_nil, List.isEmpty_nil, List.isEmpty_cons, sqAsg_a, sqDrop_a, sqPar_a, sqPar3_a, sqRet_a, sqNext_a, sqSeq_a, sNext_a, sBreak_a, sCont_a, sDrop_a, sRet_a, sRetN_a, sIf_a, sAsg_a, sPar_a, sPar3_a, mVar_a, vAt_a, mC_a, mBin_a, mTest_a, bAt_a, mAnd_a, mOr_a, mNot_a, mYes_a, mAndV_a, mOrV_a, mNotV_a, mIf_a, mNil_a, mCons_a, mTup_a, mLst_a, mCall_a, mCallK_a, mMeth_a, mSl_a, mNoPart_a, iAt_a, mPart_a, mIsi_b, tysO_some, List.any_cons, List.any_nil, Bool.or_false, Bool.false_or, Bool.or_true, Bool.true_or, Int.natCast_pos, gN_a, gTup_a, gCons_a, gNil_a, gSub_a, sFor_a, mLc_a, mDc_a, wSeq_a, sqO_tup, sqO_str, sqO_ref, wRng1_a, wRng2_b, wRng3_b, wEnum_a, enO_tup, enO_ref, mRev_a, revO_ref, List.getD_cons_zero, List.getD_cons_succ, ite_self, List.set_cons_zero, List.set_cons_succ, List.getElem?_cons_zero, List.getElem?_cons_succ, oAdd_int, oAdd_str, oAdd_tup, oAdd_ref, oSub_int, oMul_int, oDiv_int, oMod_int, oPow_int, oLt_int, oLe_int, oGt_int, oGe_int, oIs_nn, oIs_bn, oIs_in, oIs_sn, oIs_tn, oIs_rn, oIs_bb, oIs_nb, oIs_ib, oIs_sb, oIs_tb, oIs_rb, oIsi_int, oIsi_str, oIsi_bool, oIsi_tuple, oIsi_list, oIsi_dict, tyO_some, tyD_non, tyD_bl, tyD_int, tyD_str, tyD_tup, isi_facts, oEq_int, oNe_int, oEq_str, oNe_str, oSl_tup, oSl_str, oSl_ref, oLen_tup, oLen_str, oLen_ref, oAbs_int, oInt_int, oInt_bl, oMax_int, oMin_int, oTuple_tup, oTuple_ref, oList_tup, oList_str, oList_ref, oIx_tupE, oIx_ref, oAppend_ref, oPop_ref, oExtend_tupE, oSet_ref, isL_ref, isS_str, vO_some, ixO_lst, ixO_dicI, ixO_dicS, ixO_rodI, ixO_rodS, lsO_lst, rdO_lst, rdO_rol, lenO_lst, lenO_dic, lenO_rol, addO_lst, setO_lst, setO_dicI, setO_dicS, atI_zero, atI_one, atI_two, atI_end, startE, wipeE, List.map_cons, List.map_nil, List.length_cons, List.length_nil, List.replicate, List.cons_append, List.nil_append, Nat.reduceAdd, Nat.reduceSub, List.replicate_succ, List.replicate_zero, put_same, Nat.zero_le, Int.reduceLT, Int.reduceLE, Nat.reduceLT, Nat.reduceLeDiff, and_true, true_and, Bool.false_eq_true, ↓reduceIte, Bool.not_true, Bool.not_false, decide_true, decide_false, *])
local macro_rules | `(tactic| walk_at "i") => `(tactic| try simp only [mNeNil_a, mEqNil_a, nilO_ref, mRevS_a, rvsO_str, okPy_nil, List.isEmpty_nil, List.isEmpty_cons, sqIf_a, sqAsg_a, sqDrop_a, sqPar_a, sqPar3_a, sqRet_a, sqNext_a, sqSeq_a, sNext_a, sBreak_a, sCont_a, sDrop_a, sRet_a, sRetN_a, sIf_a, sAsg_a, sPar_a, sPar3_a, mVar_a, vAt_a, mC_a, mBin_a, mTest_a, bAt_a, mAnd_a, mOr_a, mNot_a, mYes_a, mAndV_a, mOrV_a, mNotV_a, mIf_a, mNil_a, mCons_a, mTup_a, mLst_a, mCall_a, mCallK_a, mMeth_a, mSl_a, mNoPart_a, iAt_a, mPart_a, mIsi_b, tysO_some, List.any_cons, List.any_nil, Bool.or_false, Bool.false_or, Bool.or_true, Bool.true_or, Int.natCast_pos, gN_a, gTup_a, gCons_a, gNil_a, gSub_a, sFor_a, mLc_a, mDc_a, wSeq_a, sqO_tup, sqO_str, sqO_ref, wRng1_a, wRng2_b, wRng3_b, wEnum_a, enO_tup, enO_ref, mRev_a, revO_ref, List.getD_cons_zero, List.getD_cons_succ, ite_self, List.set_cons_zero, List.set_cons_succ, List.getElem?_cons_zero, List.getElem?_cons_succ, oAdd_int, oAdd_str, oAdd_tup, oAdd_ref, oSub_int, oMul_int, oDiv_int, oMod_int, oPow_int, oLt_int, oLe_int, oGt_int, oGe_int, oIs_nn, oIs_bn, oIs_in, oIs_sn, oIs_tn, oIs_rn, oIs_bb, oIs_nb, oIs_ib, oIs_sb, oIs_tb, oIs_rb, oIsi_int, oIsi_str, oIsi_bool, oIsi_tuple, oIsi_list, oIsi_dict, tyO_some, tyD_non, tyD_bl, tyD_int, tyD_str, tyD_tup, isi_facts, oEq_int, oNe_int, oEq_str, oNe_str, oSl_tup, oSl_str, oSl_ref, oLen_tup, oLen_str, oLen_ref, oAbs_int, oInt_int, oInt_bl, oMax_int, oMin_int, oTuple_tup, oTuple_ref, oList_tup, oList_str, oList_ref, oIx_tupE, oIx_ref, oAppend_ref, oPop_ref, oExtend_tupE, oSet_ref, isL_ref, isS_str, vO_some, ixO_lst, ixO_dicI, ixO_dicS, ixO_rodI, ixO_rodS, lsO_lst, rdO_lst, rdO_rol, lenO_lst, lenO_dic, lenO_rol, addO_lst, setO_lst, setO_dicI, setO_dicS, atI_zero, atI_one, atI_two, atI_end, startE, wipeE, List.map_cons, List.map_nil, List.length_cons, List.length_nil, List.replicate, List.cons_append, List.nil_append, Nat.reduceAdd, Nat.reduceSub, List.replicate_succ, List.replicate_zero, put_same, Nat.zero_le, Int.reduceLT, Int.reduceLE, Nat.reduceLT, Nat.reduceLeDiff, and_true, true_and, Bool.false_eq_true, ↓reduceIte, Bool.not_true, Bool.not_false, decide_true, decide_false, *])
/-- data of small depth are shaped -/
theorem okPy_ok {xs : List D} (h : okC.okCs xs = true) (d : depC.depCs xs ≤ 63) : okPy xs := by
  obtain ⟨ps, e1, e2, e3⟩ := okCs_py xs h
  refine ⟨ps, e1, ?_⟩
  unfold SeqAt.shaped
  rw [PyData.canLay0, e2, PyData.depth, e3]
  simpa using d
theorem okPy_ints : ∀ l : List Int, okPy (l.map D.int) := fun l => by
  have h : okC.okCs (l.map D.int) = true ∧ depC.depCs (l.map D.int) = 0 := by
    induction l with
    | nil => exact ⟨rfl, rfl⟩
    | cons x l ih => exact ⟨by rw [List.map_cons, okC.okCs, ih.1]; rfl, by rw [List.map_cons, depC.depCs, ih.2]; rfl⟩
  exact okPy_ok h.1 (by omega)
theorem erase_perm {α : Type} : ∀ {ls : List α} {k : Nat} (h : k < ls.length), (ls[k] :: ls.eraseIdx k).Perm ls
  | x :: ls, 0, _ => .refl _
  | x :: ls, k + 1, h => (List.Perm.swap _ _ _).trans (.cons x (erase_perm (ls := ls) (Nat.lt_of_succ_lt_succ h)))
namespace TB
/-- _law_any(deal, bound): 0 deal 1 bound 2 rest -/
def t_law_any : MS := sSeq (sWhile (mAnd (mTest (mNeNil (mBin oIx (mVar 0) (mC (.int 0))))) (mTest (mBin oEq (mBin oIx (mBin oIx (mVar 0) (mC (.int 0))) (mC (.int (-1)))) (mC (.int 0))))) (sDrop (mMeth isL oPop (mBin oIx (mVar 0) (mC (.int 0))) mNil)))
    (sSeq (sIf (mTest (mNeNil (mBin oIx (mVar 0) (mC (.int 0))))) (sSeq (sAsg (mCall oInt (mCons (mMeth isL oPop (mBin oIx (mVar 0) (mC (.int 0))) mNil) (mNil))) (gN 2))
    (sSeq (sDrop (mMeth isL oAppend (mBin oIx (mVar 0) (mC (.int 0))) (mCons (mBin oDiv (mVar 2) (mVar 1)) (mNil))))
    (sRet (mBin oMod (mVar 2) (mVar 1))))) (sNext))
    (sSeq (sAsg (mBin oMod (mCall oInt (mCons (mBin oAdd (mBin oMul (mBin oIx (mVar 0) (mC (.int 1))) (mC (.int 48271))) (mC (.int 31))) (mNil))) (mC (.int 2147483647))) (gSub (mVar 0) (mC (.int 1)) oSet))
    (sRet (mBin oMod (mCall oInt (mCons (mBin oDiv (mBin oIx (mVar 0) (mC (.int 1))) (mC (.int 64))) (mNil))) (mVar 1)))))
theorem kp_law_any : Keeps 2 3 S_law_any t_law_any := by
  refine ⟨fun ds st Q ⟨n, m, b, e, _⟩ => by rw [e]; rfl, fun ds st Q ⟨n, m, b, e, hd, b0, b1, k⟩ => ?_⟩
  subst e
  unfold t_law_any
  obtain ⟨cells0, mix0, hd0⟩ := hd
  refine sSeq_i (fun env st' => env = [some (D.ref n), some (D.int b), none] ∧ Up n m st st') (fun nx hx => ?_) fun env st1 ⟨e, hu⟩ => ?_
  · refine ⟨fun j env st' => env = [some (D.ref n), some (D.int b), none] ∧ ∃ cells mix, DealAt st' n m cells mix ∧ cells.length = j ∧ Up n m st st', ⟨_, rfl, _, _, hd0, rfl, Up.refl ⟨_, _, hd0⟩⟩, ?_⟩
    clear hd0 cells0 mix0 k
    rintro j env st1 ⟨rfl, cells, mix, hd1, hj, hu⟩
    have ln := hd1.ln
    have lm := hd1.lm
    have hx1 := hx _ _ ⟨rfl, hu⟩
    rcases List.eq_nil_or_concat cells with rfl | ⟨l, c, rfl⟩
    · walk_at "s"
    · rw [List.concat_eq_append] at *
      have e1 : (List.map D.int (l ++ [c])).getLast? = some (.int c) := by simp
      have e2 : (List.map D.int (l ++ [c])).dropLast = l.map D.int := by simp
      have e3 : (List.map D.int (l ++ [c])).isEmpty = false := by simp
      have e4 := okPy_ints (l ++ [c])
      have hd2 : DealAt (put st1 m (.lst (l.map D.int))) n m l mix := hd1.draw (fun c' hc => hd1.nn c' (List.mem_append_left _ hc)) (by have := hd1.sz; rw [List.length_append] at this; omega)
      have hn : Up n m st (put st1 m (.lst (l.map D.int))) := hu.draw (.inr rfl) ⟨l, mix, hd2⟩
      have hq : ∃ m', m' < j ∧ ∃ cells mix, DealAt (put st1 m (.lst (l.map D.int))) n m cells mix ∧ cells.length = m' ∧ Up n m st (put st1 m (.lst (l.map D.int))) :=
        ⟨l.length, by rw [← hj]; simp, l, mix, hd2, rfl, hn⟩
      clear hx
      walk_at "s"
      by_cases hc : c = 0
      · subst hc
        simp only [decide_true, if_true]
        obtain ⟨m', h1, cl, mx, h2, h3, h4⟩ := hq
        exact ⟨m', h1, cl, mx, h2, h3⟩
      · simp [hc]
  · subst e
    obtain ⟨cells, mix, hd1⟩ := hu.deal
    have ln := hd1.ln
    have lm := hd1.lm
    rw [sqIf_a]
    have q1 := hd1.m0
    have q2 := hd1.m1
    rcases List.eq_nil_or_concat cells with rfl | ⟨l, c, rfl⟩
    · have w1 : CMulW mix 48271 := wide_mul (a := 31) (b := 16) (by omega) (by omega) (by omega) (by omega) (by omega)
      have w2 : CDivW ((mix * 48271 + 31) % 2147483647) 64 := wide_div (b := 7) (by omega) (by omega) (by omega) (by omega)
      have e5 : ixN 2 1 = some 1 := by decide
      walk_at "s"
      refine ⟨_, rfl, ?_⟩
      walk_at "s"
      refine endsOf_i (k _ _ (Int.emod_nonneg _ (by omega)) (Int.emod_lt_of_pos _ b0) (hu.draw (.inl rfl) ⟨[], _, hd1.remix (by omega) (by omega)⟩))
    · rw [List.concat_eq_append] at *
      have e1 : (List.map D.int (l ++ [c])).getLast? = some (.int c) := by simp
      have e2 : (List.map D.int (l ++ [c])).dropLast = l.map D.int := by simp
      have e3 : (List.map D.int (l ++ [c])).isEmpty = false := by simp
      have e7 := okPy_ints (l ++ [c])
      have c0 := hd1.nn c (by simp)
      have sz := hd1.sz
      have e4 : put st1 m (.lst (l.map D.int)) n = some (.lst [.ref m, .int mix]) := by rw [put_ne hd1.ne]; exact hd1.ln
      have w1 : CDivW c b := wide_div (b := 30) b0 (by omega) (by omega) (by omega)
      have w3 : (l.map D.int).length < sizeLine := by
        rw [List.length_append] at sz
        rw [List.length_map]
        have : sizeLine = 16777216 := rfl
        omega
      walk_at "s"
      have e6 : l.map D.int ++ [D.int (c / b)] = (l ++ [c / b]).map D.int := by simp
      rw [put_put, e6]
      refine endsOf_i (k _ _ (Int.emod_nonneg _ (by omega)) (Int.emod_lt_of_pos _ b0) (hu.draw (.inr rfl) ⟨_, _, hd1.draw (cells' := l ++ [c / b]) (fun c' hc => ?_) (by simpa using sz)⟩))
      rcases List.mem_append.mp hc with hc | hc
      · exact hd1.nn c' (List.mem_append_left _ hc)
      · rw [List.mem_singleton.mp hc]
        exact Int.ediv_nonneg c0 (by omega)
/-- no draw changes: a list's items in another order -/
def S_law_mixed : DSp := fun vs st Q => ∃ (n m a : Addr) (xs : List D), vs = [.ref n, .ref a] ∧ Deal st n m ∧ sq st n m (.ref a) xs ∧ xs.length ≤ 1000 ∧
  ∀ p ys st', ys.Perm xs → p ≠ n → p ≠ m → Nf st p → Up n m st st' → st' p = some (.lst ys) → Q (.ref p) st'
/-- _law_mixed(deal, some): 0 deal 1 some 2 left 3 found 4 turn -/
def t_law_mixed : MS := sSeq (sPar 2 3 (mCons (mCall oList (mCons (mVar 1) (mNil))) (mCons (mLst (mNil)) (mNil))))
    (sSeq (sFor (wRng1 (mCall oLen (mCons (mVar 1) (mNil)))) (gN 4) (sDrop (mMeth isL oAppend (mVar 3) (mCons (mMeth isL oPopAt (mVar 2) (mCons (mCall S_law_any (mCons (mVar 0) (mCons (mCall oLen (mCons (mVar 2) (mNil))) (mNil)))) (mNil))) (mNil)))))
    (sRet (mVar 3)))
theorem kp_law_mixed : Keeps 2 5 S_law_mixed t_law_mixed := by
  refine ⟨fun ds st Q ⟨n, m, a, xs, e, _⟩ => by rw [e]; rfl, fun ds st Q ⟨n, m, a, xs, e, hd, hx, hl, q⟩ => ?_⟩
  subst e
  have z0 : 0 ≤ sizeLine := by decide
  have hla := hx.2.2
  have hxl : xs.length ≤ sizeLine := by rw [szL]; omega
  unfold t_law_mixed
  refine sSeq_t fun T hT => ?_
  walk_at "s"
  intro p hp
  have hpd := hp.deal hd
  have la2 := (Keep.put (o := .lst xs) hp).l hla
  have lp : put st p (.lst xs) p = some (.lst xs) := put_same
  have u1 := Up.of hd (Keep.put (o := .lst xs) hp)
  have hpa : p ≠ a := hp.ne hla
  have kk := Keep.put (o := .lst xs) hp
  generalize put st p (.lst xs) = st1 at *
  intro r hr
  have hrd := hr.deal u1.deal
  have hrp : r ≠ p := hr.ne lp
  have hra : r ≠ a := hr.ne la2
  have hr0 : Nf st r := hr.backK kk
  have la3 := (Keep.put (o := .lst []) hr).l la2
  have lp2 := (Keep.put (o := .lst []) hr).l lp
  have lr : put st1 r (.lst []) r = some (.lst []) := put_same
  have u2 := u1.then (Keep.put (o := .lst []) hr)
  generalize put st1 r (.lst []) = st2 at *
  clear u1 hr la2 lp hla kk
  subst hT
  refine sSeq_i (fun env st' => ∃ g2 g4, env = [some (.ref n), some (.ref a), g2, some (.ref r), g4] ∧ Up n m st st' ∧ ∃ ys, ys.Perm xs ∧ st' r = some (.lst ys)) (fun nx hnx => ?_) ?_
  · walk_at "s"
    rw [szL] at hxl
    refine ⟨by omega, fun i env st' => ∃ g4, env = [some (.ref n), some (.ref a), some (.ref p), some (.ref r), g4] ∧ Up n m st st' ∧ ∃ ls ys, (ls ++ ys).Perm xs ∧ ys.length = i ∧ st' p = some (.lst ls) ∧ st' r = some (.lst ys), ⟨none, rfl, u2, xs, [], by simp, rfl, lp2, lr⟩, fun _ _ _ _ _ => trivial, ?_, ?_⟩
    · rintro i x env st3 hi ⟨g4, rfl, u3, ls, ys, hpm, hyl, lp3, lr3⟩
      have hi2 : i < xs.length := by
        have := (List.getElem?_eq_some_iff.mp hi).1
        simpa [rangeD] using this
      have hln := hpm.length_eq
      rw [List.length_append] at hln
      clear hnx q la3 lp2 lr u2 hi
      rw [gN_a]
      walk_at "s"
      refine ⟨n, m, (ls.length : Int), rfl, u3.deal, by omega, by omega, fun k st4 hk0 hk1 u4 => ?_⟩
      have u5 := u3.trans u4
      have lp4 := u4.l hpd.1 hpd.2 lp3
      have lr4 := u4.l hrd.1 hrd.2 lr3
      obtain ⟨k, rfl⟩ : ∃ k' : Nat, k = k' := ⟨k.toNat, by omega⟩
      have hkl : k < ls.length := by omega
      have hy := List.getElem?_eq_getElem hkl
      refine oPopAt_l lp4 (by rw [szL]; omega) hy ?_
      have lr5 : put st4 p (.lst (ls.eraseIdx k)) r = some (.lst ys) := by rw [put_ne hrp]; exact lr4
      have hsz : ys.length < sizeLine := by rw [szL]; omega
      have hpm2 : (ls.eraseIdx k ++ (ys ++ [ls[k]])).Perm xs := by
        refine List.Perm.trans ?_ hpm
        have h1 := erase_perm hkl
        have h2 : (ls.eraseIdx k ++ (ys ++ [ls[k]])).Perm (ls[k] :: ls.eraseIdx k ++ ys) := by
          rw [← List.append_assoc]
          exact List.perm_append_comm
        exact h2.trans (List.Perm.append_right ys h1)
      clear u3 u4 lp3 lr3
      walk_at "s"
      refine ⟨by omega, _, rfl, ?_, ls.eraseIdx k, ys ++ [ls[k]], hpm2, by rw [List.length_append, hyl]; rfl, ?_, rfl⟩
      · exact (u5.put hp hpd.1 hpd.2).put hr0 hrd.1 hrd.2
      · rw [put_ne hrp.symm]
        exact put_same
    · rintro env st3 ⟨g4, rfl, u3, ls, ys, hpm, hyl, lp3, lr3⟩
      have e : (rangeD 0 (xs.length : Int).toNat).length = xs.length := by simp [rangeD]
      rw [e] at hyl
      have hln := hpm.length_eq
      rw [List.length_append] at hln
      have : ls = [] := List.eq_nil_of_length_eq_zero (by omega)
      subst this
      exact hnx _ _ ⟨_, _, rfl, u3, ys, hpm, lr3⟩
  · rintro env st3 ⟨g2, g4, rfl, u3, ys, hpm, lr3⟩
    walk_at "s"
    exact endsOf_i (q r ys st3 hpm hrd.1 hrd.2 hr0 u3 lr3)
end TB
end L2.DL

namespace L2.DL
open PySem PySem.Spec PyProof.Rows
local macro_rules | `(tactic| walk_at "s") => `(tactic| try simp only [mNeNil_a, mEqNil_a, nilO_ref, mRevS_a, rvsO_str, okPy_nil, List.isEmpty_nil, List.isEmpty_cons, sqAsg_a, sqDrop_a, sqPar_a, sqPar3_a, sqRet_a, sqNext_a, sqSeq_a, sNext_a, sBreak_a, sCont_a, sDrop_a, sRet_a, sRetN_a, sIf_a, sAsg_a, sPar_a, sPar3_a, mVar_a, vAt_a, mC_a, mBin_a, mTest_a, bAt_a, mAnd_a, mOr_a, mNot_a, mYes_a, mAndV_a, mOrV_a, mNotV_a, mIf_a, mNil_a, mCons_a, mTup_a, mLst_a, mCall_a, mCallK_a, mMeth_a, mSl_a, mNoPart_a, iAt_a, mPart_a, mIsi_b, tysO_some, List.any_cons, List.any_nil, Bool.or_false, Bool.false_or, Bool.or_true, Bool.true_or, Int.natCast_pos, gN_a, gTup_a, gCons_a, gNil_a, gSub_a, sFor_a, mLc_a, mDc_a, wSeq_a, sqO_tup, sqO_str, sqO_ref, wRng1_a, wRng2_b, wRng3_b, wEnum_a, enO_tup, enO_ref, mRev_a, revO_ref, List.getD_cons_zero, List.getD_cons_succ, ite_self, List.set_cons_zero, List.set_cons_succ, List.getElem?_cons_zero, List.getElem?_cons_succ, oAdd_int, oAdd_str, oAdd_tup, oAdd_ref, oSub_int, oMul_int, oDiv_int, oMod_int, oPow_int, oLt_int, oLe_int, oGt_int, oGe_int, oIs_nn, oIs_bn, oIs_in, oIs_sn, oIs_tn, oIs_rn, oIs_bb, oIs_nb, oIs_ib, oIs_sb, oIs_tb, oIs_rb, oIsi_int, oIsi_str, oIsi_bool, oIsi_tuple, oIsi_list, oIsi_dict, tyO_some, tyD_non, tyD_bl, tyD_int, tyD_str, tyD_tup, isi_facts, oEq_int, oNe_int, oEq_str, oNe_str, oSl_tup, oSl_str, oSl_ref, oLen_tup, oLen_str, oLen_ref, oAbs_int, oInt_int, oInt_bl, oMax_int, oMin_int, oTuple_tup, oTuple_ref, oList_tup, oList_str, oList_ref, oIx_tupE, oIx_ref, oAppend_ref, oPop_ref, oExtend_tupE, oSet_ref, isL_ref, isS_str, vO_some, ixO_lst, ixO_dicI, ixO_dicS, ixO_rodI, ixO_rodS, lsO_lst, rdO_lst, rdO_rol, lenO_lst, lenO_dic, lenO_rol, addO_lst, setO_lst, setO_dicI, setO_dicS, atI_zero, atI_one, atI_two, atI_end, startE, wipeE, List.map_cons, List.map_nil, List.length_cons, List.length_nil, List.replicate, List.cons_append, List.nil_append, Nat.reduceAdd, Nat.reduceSub, List.replicate_succ, List.replicate_zero, put_same, Nat.zero_le, Int.reduceLT, Int.reduceLE, Nat.reduceLT, Nat.reduceLeDiff, and_true, true_and, Bool.false_eq_true, ↓reduceIte, Bool.not_true, Bool.not_false, decide_true, decide_false, *])
local macro_rules | `(tactic| walk_at "i") => `(tactic| try simp only [mNeNil_a, mEqNil_a, nilO_ref, mRevS_a, rvsO_str, okPy_nil, List.isEmpty_nil, List.isEmpty_cons, sqIf_a, sqAsg_a, sqDrop_a, sqPar_a, sqPar3_a, sqRet_a, sqNext_a, sqSeq_a, sNext_a, sBreak_a, sCont_a, sDrop_a, sRet_a, sRetN_a, sIf_a, sAsg_a, sPar_a, sPar3_a, mVar_a, vAt_a, mC_a, mBin_a, mTest_a, bAt_a, mAnd_a, mOr_a, mNot_a, mYes_a, mAndV_a, mOrV_a, mNotV_a, mIf_a, mNil_a, mCons_a, mTup_a, mLst_a, mCall_a, mCallK_a, mMeth_a, mSl_a, mNoPart_a, iAt_a, mPart_a, mIsi_b, tysO_some, List.any_cons, List.any_nil, Bool.or_false, Bool.false_or, Bool.or_true, Bool.true_or, Int.natCast_pos, gN_a, gTup_a, gCons_a, gNil_a, gSub_a, sFor_a, mLc_a, mDc_a, wSeq_a, sqO_tup, sqO_str, sqO_ref, wRng1_a, wRng2_b, wRng3_b, wEnum_a, enO_tup, enO_ref, mRev_a, revO_ref, List.getD_cons_zero, List.getD_cons_succ, ite_self, List.set_cons_zero, List.set_cons_succ, List.getElem?_cons_zero, List.getElem?_cons_succ, oAdd_int, oAdd_str, oAdd_tup, oAdd_ref, oSub_int, oMul_int, oDiv_int, oMod_int, oPow_int, oLt_int, oLe_int, oGt_int, oGe_int, oIs_nn, oIs_bn, oIs_in, oIs_sn, oIs_tn, oIs_rn, oIs_bb, oIs_nb, oIs_ib, oIs_sb, oIs_tb, oIs_rb, oIsi_int, oIsi_str, oIsi_bool, oIsi_tuple, oIsi_list, oIsi_dict, tyO_some, tyD_non, tyD_bl, tyD_int, tyD_str, tyD_tup, isi_facts, oEq_int, oNe_int, oEq_str, oNe_str, oSl_tup, oSl_str, oSl_ref, oLen_tup, oLen_str, oLen_ref, oAbs_int, oInt_int, oInt_bl, oMax_int, oMin_int, oTuple_tup, oTuple_ref, oList_tup, oList_str, oList_ref, oIx_tupE, oIx_ref, oAppend_ref, oPop_ref, oExtend_tupE, oSet_ref, isL_ref, isS_str, vO_some, ixO_lst, ixO_dicI, ixO_dicS, ixO_rodI, ixO_rodS, lsO_lst, rdO_lst, rdO_rol, lenO_lst, lenO_dic, lenO_rol, addO_lst, setO_lst, setO_dicI, setO_dicS, atI_zero, atI_one, atI_two, atI_end, startE, wipeE, List.map_cons, List.map_nil, List.length_cons, List.length_nil, List.replicate, List.cons_append, List.nil_append, Nat.reduceAdd, Nat.reduceSub, List.replicate_succ, List.replicate_zero, put_same, Nat.zero_le, Int.reduceLT, Int.reduceLE, Nat.reduceLT, Nat.reduceLeDiff, and_true, true_and, Bool.false_eq_true, ↓reduceIte, Bool.not_true, Bool.not_false, decide_true, decide_false, *])
namespace TB
theorem depCs_mem : ∀ {xs : List D} {d : D}, d ∈ xs → depC d ≤ depC.depCs xs
  | x :: xs, d, h => by
    rw [depC.depCs]
    rcases List.mem_cons.mp h with rfl | h
    · omega
    · have := depCs_mem h
      omega
theorem wDs_mem : ∀ {xs : List D} {d : D}, d ∈ xs → wD d ≤ wD.wDs xs
  | x :: xs, d, h => by
    rw [wD.wDs]
    rcases List.mem_cons.mp h with rfl | h
    · omega
    · have := wDs_mem h
      omega
/-- the same data, by depth -/
def SP_law_same : Nat → DSp
  | 0 => fun _ _ _ => False
  | j + 1 => fun vs st Q => ∃ d, vs = [d, d] ∧ datD d = true ∧ depC d ≤ j ∧ wD d ≤ 10000000 ∧ ∀ st', Keep st st' → Q (.bl true) st'
def S_law_same : DSp := SP_law_same 7
/-- _law_same(told, due): 0 told 1 due 2 at -/
def t_law_same (S_law_same : DSp) : MS := sSeq (sIf (mTest (mCall oIsi (mCons (mVar 1) (mCons (mC (.ty "tuple")) (mNil))))) (sSeq (sIf (mOr (mNot (mTest (mCall oIsi (mCons (mVar 0) (mCons (mC (.ty "tuple")) (mNil)))))) (mTest (mBin oNe (mCall oLen (mCons (mVar 0) (mNil))) (mCall oLen (mCons (mVar 1) (mNil)))))) (sRet (mC (.bl false))) (sNext))
    (sRet (mBin oEq (mCall oLen (mCons (mLc (wRng1 (mCall oLen (mCons (mVar 1) (mNil)))) (gN 2) (mNot (mTest (mCall S_law_same (mCons (mBin oIx (mVar 0) (mVar 2)) (mCons (mBin oIx (mVar 1) (mVar 2)) (mNil)))))) (mVar 2) [2]) (mNil))) (mC (.int 0))))) (sNext))
    (sSeq (sIf (mTest (mBin oIs (mVar 1) (mC .non))) (sRet (mBin oIs (mVar 0) (mC .non))) (sNext))
    (sSeq (sIf (mOr (mTest (mBin oIs (mVar 1) (mC (.bl true)))) (mTest (mBin oIs (mVar 1) (mC (.bl false))))) (sRet (mIf (mTest (mVar 1)) (mBin oIs (mVar 0) (mC (.bl true))) (mBin oIs (mVar 0) (mC (.bl false))))) (sNext))
    (sSeq (sIf (mTest (mCall oIsi (mCons (mVar 1) (mCons (mC (.ty "str")) (mNil))))) (sRet (mAndV (mCall oIsi (mCons (mVar 0) (mCons (mC (.ty "str")) (mNil)))) (mBin oEq (mVar 0) (mVar 1)))) (sNext))
    (sRet (mAndV (mCall oIsi (mCons (mVar 0) (mCons (mC (.ty "int")) (mNil)))) (mAndV (mNotV (mCall oIsi (mCons (mVar 0) (mCons (mC (.ty "bool")) (mNil))))) (mBin oEq (mVar 0) (mVar 1))))))))
theorem kr_law_same (j : Nat) : Keeps 2 3 (SP_law_same (j + 1)) (t_law_same (SP_law_same j)) := by
  refine ⟨fun ds st Q ⟨d, e, _⟩ => by rw [e]; rfl, fun ds st Q ⟨d, e, hf, hd, hw, k⟩ => ?_⟩
  subst e
  have k0 := k st .refl
  unfold t_law_same
  cases d with
  | tup xs =>
    have h1 : wD (.tup xs) = 1 + wD.wDs xs := rfl
    have hl2 := wDs_len xs
    have hcs := datDs_all (xs := xs) hf
    have hj : depC.depCs xs + 1 ≤ j := hd
    obtain ⟨j, rfl⟩ : ∃ j', j = j' + 1 := ⟨j - 1, by omega⟩
    refine sSeq_t fun T hT => ?_
    walk_at "i"
    clear hT T
    refine ⟨by omega, lc_keep (fun _ => none) (fun _ _ => trivial) (by rw [szL]; simp [rangeD]; omega) (fun y hy st2 u2 P N hP hN => ?_) fun p st1 hp u1 l1 => ?_⟩
    · have h2 := hN st2 rfl .refl
      obtain ⟨i, hi, rfl⟩ := List.mem_map.mp hy
      have hi2 : i < xs.length := by
        have := List.mem_range.mp hi
        simpa using this
      have e5 : atI xs (0 + (i : Int)) = some xs[i] := by rw [Int.zero_add, atI_ofNat, List.getElem?_eq_getElem hi2]
      have hm := List.getElem_mem hi2
      have q1 := depCs_mem hm
      have q2 := wDs_mem hm
      have q3 := hcs _ hm
      clear hP hy hcs
      rw [gN_a]
      walk_at "s"
      refine ⟨_, rfl, q3, by omega, by omega, fun st3 u3 => ?_⟩
      have h3 := hN st3 rfl u3
      clear h2
      walk_at "s"
    · have e6 : (rangeD 0 (xs.length : Int).toNat).filterMap (fun _ => (none : Option D)) = [] := by simp
      rw [e6] at l1
      walk_at "s"
      exact endsOf_i (k st1 u1)
  | non =>
    walk_at "i"
    exact endsOf_i k0
  | bl v =>
    cases v
    · walk_at "i"
      exact endsOf_i k0
    · walk_at "i"
      exact endsOf_i k0
  | int v =>
    walk_at "i"
    exact endsOf_i k0
  | str v =>
    walk_at "i"
    exact endsOf_i k0
  | ty n => cases hf
  | ref a => cases hf
def okP (d : D) : Prop := datD d = true ∧ depC d ≤ 6 ∧ wD d ≤ 10000000
def S_law_all : DSp := fun vs st Q => ∃ (a : Addr) (ds : List D), vs = [.ref a] ∧ st a = some (.lst (ds.map twice)) ∧ ds.length ≤ 1000000 ∧ (∀ d ∈ ds, okP d) ∧ ∀ st', Keep st st' → Q (.bl true) st'
/-- _law_all(pairs): 0 pairs 1 told 2 due -/
def t_law_all : MS := sRet (mBin oEq (mCall oLen (mCons (mLc (wSeq (mVar 0)) (gTup 2 (gCons (gN 1) (gCons (gN 2) (gNil)))) (mNot (mTest (mCall S_law_same (mCons (mVar 1) (mCons (mVar 2) (mNil)))))) (mVar 1) [1, 2]) (mNil))) (mC (.int 0)))
theorem kp_law_all : Keeps 1 3 S_law_all t_law_all := by
  refine ⟨fun ds st Q ⟨a, es, e, _⟩ => by rw [e]; rfl, fun ds st Q ⟨a, es, e, la, hl, hok, k⟩ => ?_⟩
  subst e
  unfold t_law_all
  walk_at "s"
  refine lc_keep (fun _ => none) (fun st' u => by show rdL (st' a) = _; rw [u.l la]; rfl) (xs := es.map twice) (by rw [List.length_map, szL]; omega) (fun y hy st2 u2 P N hP hN => ?_) fun p st1 hp u1 l1 => ?_
  · obtain ⟨d, hd, rfl⟩ := List.mem_map.mp hy
    obtain ⟨h1, h2, h3⟩ := hok d hd
    unfold twice
    walk_at "s"
    refine ⟨d, rfl, h1, h2, h3, fun st3 u3 => ?_⟩
    have h4 := hN st3 rfl u3
    walk_at "s"
  · have e6 : (es.map twice).filterMap (fun _ => (none : Option D)) = [] := by simp
    rw [e6] at l1
    walk_at "s"
    exact endsOf_i (k st1 u1)
end TB
end L2.DL

namespace L2.DL
open PySem PySem.Spec PyProof.Rows
local macro_rules | `(tactic| walk_at "s") => `(tactic| try simp only [mNeNil_a, mEqNil_a, nilO_ref, mRevS_a, rvsO_str, okPy_nil, List.isEmpty_nil, List.isEmpty_cons, sqAsg_a, sqDrop_a, sqPar_a, sqPar3_a, sqRet_a, sqNext_a, sqSeq_a, sNext_a, sBreak_a, sCont_a, sDrop_a, sRet_a, sRetN_a, sIf_a, sAsg_a, sPar_a, sPar3_a, mVar_a, vAt_a, mC_a, mBin_a, mTest_a, bAt_a, mAnd_a, mOr_a, mNot_a, mYes_a, mAndV_a, mOrV_a, mNotV_a, mIf_a, mNil_a, mCons_a, mTup_a, mLst_a, mCall_a, mCallK_a, mMeth_a, mSl_a, mNoPart_a, iAt_a, mPart_a, mIsi_b, tysO_some, List.any_cons, List.any_nil, Bool.or_false, Bool.false_or, Bool.or_true, Bool.true_or, Int.natCast_pos, gN_a, gTup_a, gCons_a, gNil_a, gSub_a, sFor_a, mLc_a, mDc_a, wSeq_a, sqO_tup, sqO_str, sqO_ref, wRng1_a, wRng2_b, wRng3_b, wEnum_a, enO_tup, enO_ref, mRev_a, revO_ref, List.getD_cons_zero, List.getD_cons_succ, ite_self, List.set_cons_zero, List.set_cons_succ, List.getElem?_cons_zero, List.getElem?_cons_succ, oAdd_int, oAdd_str, oAdd_tup, oAdd_ref, oSub_int, oMul_int, oDiv_int, oMod_int, oPow_int, oLt_int, oLe_int, oGt_int, oGe_int, oIs_nn, oIs_bn, oIs_in, oIs_sn, oIs_tn, oIs_rn, oIs_bb, oIs_nb, oIs_ib, oIs_sb, oIs_tb, oIs_rb, oIsi_int, oIsi_str, oIsi_bool, oIsi_tuple, oIsi_list, oIsi_dict, tyO_some, tyD_non, tyD_bl, tyD_int, tyD_str, tyD_tup, isi_facts, oEq_int, oNe_int, oEq_str, oNe_str, oSl_tup, oSl_str, oSl_ref, oLen_tup, oLen_str, oLen_ref, oAbs_int, oInt_int, oInt_bl, oMax_int, oMin_int, oTuple_tup, oTuple_ref, oList_tup, oList_str, oList_ref, oIx_tupE, oIx_ref, oAppend_ref, oPop_ref, oExtend_tupE, oSet_ref, isL_ref, isS_str, vO_some, ixO_lst, ixO_dicI, ixO_dicS, ixO_rodI, ixO_rodS, lsO_lst, rdO_lst, rdO_rol, lenO_lst, lenO_dic, lenO_rol, addO_lst, setO_lst, setO_dicI, setO_dicS, atI_zero, atI_one, atI_two, atI_end, startE, wipeE, List.map_cons, List.map_nil, List.length_cons, List.length_nil, List.replicate, List.cons_append, List.nil_append, Nat.reduceAdd, Nat.reduceSub, List.replicate_succ, List.replicate_zero, put_same, Nat.zero_le, Int.reduceLT, Int.reduceLE, Nat.reduceLT, Nat.reduceLeDiff, and_true, true_and, Bool.false_eq_true, ↓reduceIte, Bool.not_true, Bool.not_false, decide_true, decide_false, *])
local macro_rules | `(tactic| walk_at "i") => `(tactic| try simp only [mNeNil_a, mEqNil_a, nilO_ref, mRevS_a, rvsO_str, okPy_nil, List.isEmpty_nil, List.isEmpty_cons, sqIf_a, sqAsg_a, sqDrop_a, sqPar_a, sqPar3_a, sqRet_a, sqNext_a, sqSeq_a, sNext_a, sBreak_a, sCont_a, sDrop_a, sRet_a, sRetN_a, sIf_a, sAsg_a, sPar_a, sPar3_a, mVar_a, vAt_a, mC_a, mBin_a, mTest_a, bAt_a, mAnd_a, mOr_a, mNot_a, mYes_a, mAndV_a, mOrV_a, mNotV_a, mIf_a, mNil_a, mCons_a, mTup_a, mLst_a, mCall_a, mCallK_a, mMeth_a, mSl_a, mNoPart_a, iAt_a, mPart_a, mIsi_b, tysO_some, List.any_cons, List.any_nil, Bool.or_false, Bool.false_or, Bool.or_true, Bool.true_or, Int.natCast_pos, gN_a, gTup_a, gCons_a, gNil_a, gSub_a, sFor_a, mLc_a, mDc_a, wSeq_a, sqO_tup, sqO_str, sqO_ref, wRng1_a, wRng2_b, wRng3_b, wEnum_a, enO_tup, enO_ref, mRev_a, revO_ref, List.getD_cons_zero, List.getD_cons_succ, ite_self, List.set_cons_zero, List.set_cons_succ, List.getElem?_cons_zero, List.getElem?_cons_succ, oAdd_int, oAdd_str, oAdd_tup, oAdd_ref, oSub_int, oMul_int, oDiv_int, oMod_int, oPow_int, oLt_int, oLe_int, oGt_int, oGe_int, oIs_nn, oIs_bn, oIs_in, oIs_sn, oIs_tn, oIs_rn, oIs_bb, oIs_nb, oIs_ib, oIs_sb, oIs_tb, oIs_rb, oIsi_int, oIsi_str, oIsi_bool, oIsi_tuple, oIsi_list, oIsi_dict, tyO_some, tyD_non, tyD_bl, tyD_int, tyD_str, tyD_tup, isi_facts, oEq_int, oNe_int, oEq_str, oNe_str, oSl_tup, oSl_str, oSl_ref, oLen_tup, oLen_str, oLen_ref, oAbs_int, oInt_int, oInt_bl, oMax_int, oMin_int, oTuple_tup, oTuple_ref, oList_tup, oList_str, oList_ref, oIx_tupE, oIx_ref, oAppend_ref, oPop_ref, oExtend_tupE, oSet_ref, isL_ref, isS_str, vO_some, ixO_lst, ixO_dicI, ixO_dicS, ixO_rodI, ixO_rodS, lsO_lst, rdO_lst, rdO_rol, lenO_lst, lenO_dic, lenO_rol, addO_lst, setO_lst, setO_dicI, setO_dicS, atI_zero, atI_one, atI_two, atI_end, startE, wipeE, List.map_cons, List.map_nil, List.length_cons, List.length_nil, List.replicate, List.cons_append, List.nil_append, Nat.reduceAdd, Nat.reduceSub, List.replicate_succ, List.replicate_zero, put_same, Nat.zero_le, Int.reduceLT, Int.reduceLE, Nat.reduceLT, Nat.reduceLeDiff, and_true, true_and, Bool.false_eq_true, ↓reduceIte, Bool.not_true, Bool.not_false, decide_true, decide_false, *])
namespace TB
def az26 : Str := "abcdefghijklmnopqrstuvwxyz"
theorem az26_ok : az26.length = 26 ∧ az26.cps.toList.length = 26 ∧ ∀ c ∈ az26.cps.toList, 97 ≤ c ∧ c ≤ 122 := by decide +kernel
theorem rangeD_get {i : Int} {n k : Nat} {x : D} (h : (rangeD i n)[k]? = some x) : k < n ∧ x = .int (i + k) := by
  unfold rangeD at h
  obtain ⟨j, hj, rfl⟩ := Option.map_eq_some_iff.mp (by rw [← List.getElem?_map]; exact h)
  obtain ⟨h1, h2⟩ := List.getElem?_eq_some_iff.mp hj
  simp at h1 h2
  subst h2
  exact ⟨h1, rfl⟩
theorem rangeD_len {i : Int} {n : Nat} : (rangeD i n).length = n := by simp [rangeD]
theorem oFind_s {a b : Str} {st : Sto} {Q : DK} : oFind (.str a) [.str b] st Q = Q (.int (Txt.find a b)) st := rfl
theorem find_bd (y : Str) : -1 ≤ Txt.find az26 y ∧ Txt.find az26 y ≤ 26 := by
  have h1 := fact_find az26 y
  have h2 := az26_ok.1
  omega
/-- a fact that a walk does not see -/
structure Hdn (p : Prop) : Prop where
  out : p
theorem hide {p : Prop} (h : p) : Hdn p := ⟨h⟩
/-- the number of a text's last sign among a, b, .. -/
def lastN (x : Str) : Nat := x.cps.toList.getLast?.getD 97 - 97
def nxtL (x y : Str) : Prop := azOk x = true → x.length ≠ 0 → lastN y = (lastN x + 1) % 26
theorem lastN_mod {x : Str} (h : azOk x = true) : lastN x % 26 = lastN x := by
  unfold lastN
  cases e : x.cps.toList.getLast? with
  | none => rfl
  | some c =>
    have h2 := List.mem_of_getLast? e
    unfold azOk at h
    rw [List.all_eq_true] at h
    have h3 := of_decide_eq_true (h c h2)
    show (c - 97) % 26 = c - 97
    omega
theorem lastN_app {a b : Str} (h : b.length ≠ 0) : lastN (a ++ b) = lastN b := by
  unfold lastN
  rw [cps_app, List.getLast?_append]
  have : b.cps.toList ≠ [] := by
    intro e
    rw [len_cps, e] at h
    exact h rfl
  cases e : b.cps.toList.getLast? with
  | none => exact absurd (List.getLast?_eq_none_iff.mp e) this
  | some c => rfl
theorem az26_get : ∀ r : Nat, r < 26 → az26.cps.toList[r]? = some (97 + r) := by decide +kernel
theorem find_az : ∀ r : Nat, r < 26 → Txt.find az26 ⟨#[97 + r]⟩ = (r : Int) := by decide +kernel
def S_law_next_name : DSp := fun vs st Q => ∃ x : Str, vs = [.str x] ∧ x.length ≤ 1000 ∧ ∀ y : Str, y.length = x.length → azOk y = true → nxtL x y → Q (.str y) st
/-- _law_next_name(name): 0 name 1 found 2 carry 3 sign 4 number -/
def t_law_next_name : MS := sSeq (sAsg (mTup (mCons (mC (.str "")) (mCons (mC (.int 1)) (mNil)))) (gTup 2 (gCons (gN 1) (gCons (gN 2) (gNil)))))
    (sSeq (sFor (wSeq (mRevS (mVar 0))) (gN 3) (sSeq (sAsg (mBin oAdd (mMeth isS oFind (mC (.str "abcdefghijklmnopqrstuvwxyz")) (mCons (mVar 3) (mNil))) (mVar 2)) (gN 4))
    (sPar 1 2 (mCons (mBin oAdd (mBin oIx (mC (.str "abcdefghijklmnopqrstuvwxyz")) (mBin oMod (mVar 4) (mC (.int 26)))) (mVar 1)) (mCons (mBin oDiv (mVar 4) (mC (.int 26))) (mNil))))))
    (sRet (mVar 1)))
theorem az_cons {a y : Str} (ha : azOk a = true) (hy : azOk y = true) : azOk (a ++ y) = true := by
  unfold azOk at *
  rw [cps_app, List.all_append, ha, hy]
  rfl
theorem revS_len (z : Str) : (revS z).length = z.length := by
  rw [len_cps, len_cps]
  show z.cps.toList.reverse.toArray.toList.length = _
  rw [List.toList_toArray, List.length_reverse]
theorem str_nil {y : Str} (h : y.length = 0) : y = "" := by
  obtain ⟨a⟩ := y
  have : a = #[] := Array.eq_empty_of_size_eq_zero h
  subst this
  rfl
theorem first_sg {x sg : Str} {i : Nat} (hz : (signsD (revS x))[i]? = some (D.str sg)) (e : i = 0) (a : azOk x = true) : Txt.find "abcdefghijklmnopqrstuvwxyz" sg = ((lastN x : Nat) : Int) := by
  subst e
  unfold signsD at hz
  rw [List.getElem?_map, Option.map_eq_some_iff] at hz
  obtain ⟨c, hc, e⟩ := hz
  cases e
  have h1 : x.cps.toList.getLast? = some c := by
    rw [← List.head?_eq_getElem?] at hc
    have e2 : (revS x).cps.toList = x.cps.toList.reverse := List.toList_toArray
    rw [e2, List.head?_reverse] at hc
    exact hc
  have h2 := List.mem_of_getLast? h1
  unfold azOk at a
  rw [List.all_eq_true] at a
  have h3 := of_decide_eq_true (a c h2)
  have h4 : lastN x = c - 97 := by unfold lastN; rw [h1]; rfl
  have h5 := find_az (c - 97) (by omega)
  rw [show 97 + (c - 97) = c by omega] at h5
  rw [h4]
  exact h5
theorem kp_law_next_name : Keeps 1 5 S_law_next_name t_law_next_name := by
  refine ⟨fun ds st Q ⟨x, e, _⟩ => by rw [e]; rfl, fun ds st Q ⟨x, e, hl, q⟩ => ?_⟩
  subst e
  have z2 : 0 + 1 + 1 ≤ sizeLine := by decide
  have hxl : x.length ≤ sizeLine := by rw [szL]; omega
  unfold t_law_next_name
  refine sSeq_t fun T hT => ?_
  walk_at "s"
  subst hT
  refine sSeq_i (fun env st' => ∃ g0 g2 g3 g4, ∃ y : Str, env = [g0, some (.str y), g2, g3, g4] ∧ y.length = x.length ∧ azOk y = true ∧ nxtL x y ∧ st' = st) (fun nx hnx => ?_) ?_
  · walk_at "s"
    refine ⟨fun i env st' => ∃ g3 g4, ∃ (y : Str) (c : Int), env = [some (.str x), some (.str y), some (.int c), g3, g4] ∧ y.length = i ∧ azOk y = true ∧ (i = 0 → c = 1) ∧ Hdn (i ≠ 0 → azOk x = true → lastN y = (lastN x + 1) % 26) ∧ st' = st, ⟨none, none, "", 1, rfl, rfl, rfl, fun _ => rfl, hide fun h => absurd rfl h, rfl⟩, fun _ _ _ _ _ => trivial, ?_, ?_⟩
    · rintro i z env st1 hz ⟨g3, g4, y, c, rfl, hy, ha, hc1, hN, rfl⟩
      have hi : i < x.length := by
        have := (List.getElem?_eq_some_iff.mp hz).1
        rwa [signsD_len, revS_len] at this
      obtain ⟨sg, rfl⟩ : ∃ sg : Str, z = .str sg := by
        unfold signsD at hz
        rw [List.getElem?_map, Option.map_eq_some_iff] at hz
        obtain ⟨c, _, rfl⟩ := hz
        exact ⟨_, rfl⟩
      have hsg := hide (first_sg hz)
      have hc2 := hide hc1
      clear hz hnx q hc1
      rw [gN_a]
      have cd : ∀ i : Int, CDivW i 26 := fun i => ⟨by decide, by decide⟩
      have p26 : (0 : Int) < 26 := by decide
      have hsz : 1 + y.length ≤ sizeLine := by rw [szL]; omega
      refine sSeq_t fun T hT => ?_
      walk_at "s"
      rw [oFind_s]
      obtain ⟨fd, hfd⟩ : ∃ fd : Int, Txt.find "abcdefghijklmnopqrstuvwxyz" sg = fd := ⟨_, rfl⟩
      rw [hfd]
      have hfd2 : Hdn (i = 0 → azOk x = true → fd = (lastN x : Nat)) := hide fun e a => by rw [← hfd]; exact hsg.out e a
      clear hfd hsg
      subst hT
      obtain ⟨r, hr, hr2⟩ : ∃ r : Nat, (fd + c) % 26 = (r : Int) ∧ r < 26 := ⟨((fd + c) % 26).toNat, by omega, by omega⟩
      have hrl : r < az26.cps.toList.length := by rw [az26_ok.2.1]; exact hr2
      have hcc : atI az26.cps.toList ((r : Nat) : Int) = some az26.cps.toList[r] := by rw [atI_ofNat, List.getElem?_eq_getElem hrl]
      have hco := az26_ok.2.2 _ (List.getElem_mem hrl)
      have hce : Hdn (az26.cps.toList[r] = 97 + r) := hide (by have := az26_get r hr2; rw [List.getElem?_eq_getElem hrl] at this; exact Option.some.inj this)
      have hr3 := hide hr
      generalize az26.cps.toList[r] = ch at *
      walk_at "s"
      refine oIx_s (z := az26) (by decide +kernel) hcc ?_
      have hsz2 : (⟨#[ch]⟩ : Str).length + y.length ≤ sizeLine := hsz
      walk_at "s"
      refine ⟨by rw [hy] at hsz2; exact hsz2, _, _, _, _, rfl, by rw [len_app, hy]; show 1 + i = i + 1; omega, az_cons ?_ ha, ?_⟩
      · unfold azOk
        simp
        exact hco
      · refine ⟨fun h => absurd h (Nat.succ_ne_zero _), hide fun _ hx => ?_⟩
        by_cases e : i = 0
        · have hy0 : y = "" := str_nil (by rw [hy, e])
          subst hy0
          have h1 := hfd2.out e hx
          have h2 := hc2.out e
          have h3 := hr3.out
          have h4 := hce.out
          have h5 : lastN ((⟨#[ch]⟩ : Str) ++ "") = ch - 97 := rfl
          rw [h5, h4]
          omega
        · rw [lastN_app (by rw [hy]; exact e)]
          exact hN.out e hx
    · rintro env st1 ⟨g3, g4, y, c, rfl, hy, ha, hc1, hN, rfl⟩
      rw [signsD_len, revS_len] at hy hN
      exact hnx _ _ ⟨_, _, _, _, y, rfl, hy, ha, fun hx h0 => hN.out h0 hx, rfl⟩
  · rintro env st1 ⟨g0, g2, g3, g4, y, rfl, hy, ha, hN, rfl⟩
    walk_at "s"
    exact endsOf_i (q y hy ha hN)
end TB
end L2.DL

namespace L2.DL
open PySem PySem.Spec PyProof.Rows
local macro_rules | `(tactic| walk_at "s") => `(tactic| try simp only [mNeNil_a, mEqNil_a, nilO_ref, mRevS_a, rvsO_str, okPy_nil, List.isEmpty_nil, List.isEmpty_cons, sqAsg_a, sqDrop_a, sqPar_a, sqPar3_a, sqRet_a, sqNext_a, sqSeq_a, sNext_a, sBreak_a, sCont_a, sDrop_a, sRet_a, sRetN_a, sIf_a, sAsg_a, sPar_a, sPar3_a, mVar_a, vAt_a, mC_a, mBin_a, mTest_a, bAt_a, mAnd_a, mOr_a, mNot_a, mYes_a, mAndV_a, mOrV_a, mNotV_a, mIf_a, mNil_a, mCons_a, mTup_a, mLst_a, mCall_a, mCallK_a, mMeth_a, mSl_a, mNoPart_a, iAt_a, mPart_a, mIsi_b, tysO_some, List.any_cons, List.any_nil, Bool.or_false, Bool.false_or, Bool.or_true, Bool.true_or, Int.natCast_pos, gN_a, gTup_a, gCons_a, gNil_a, gSub_a, sFor_a, mLc_a, mDc_a, wSeq_a, sqO_tup, sqO_str, sqO_ref, wRng1_a, wRng2_b, wRng3_b, wEnum_a, enO_tup, enO_ref, mRev_a, revO_ref, List.getD_cons_zero, List.getD_cons_succ, ite_self, List.set_cons_zero, List.set_cons_succ, List.getElem?_cons_zero, List.getElem?_cons_succ, oAdd_int, oAdd_str, oAdd_tup, oAdd_ref, oSub_int, oMul_int, oDiv_int, oMod_int, oPow_int, oLt_int, oLe_int, oGt_int, oGe_int, oIs_nn, oIs_bn, oIs_in, oIs_sn, oIs_tn, oIs_rn, oIs_bb, oIs_nb, oIs_ib, oIs_sb, oIs_tb, oIs_rb, oIsi_int, oIsi_str, oIsi_bool, oIsi_tuple, oIsi_list, oIsi_dict, tyO_some, tyD_non, tyD_bl, tyD_int, tyD_str, tyD_tup, isi_facts, oEq_int, oNe_int, oEq_str, oNe_str, oSl_tup, oSl_str, oSl_ref, oLen_tup, oLen_str, oLen_ref, oAbs_int, oInt_int, oInt_bl, oMax_int, oMin_int, oTuple_tup, oTuple_ref, oList_tup, oList_str, oList_ref, oIx_tupE, oIx_ref, oAppend_ref, oPop_ref, oExtend_tupE, oSet_ref, isL_ref, isS_str, vO_some, ixO_lst, ixO_dicI, ixO_dicS, ixO_rodI, ixO_rodS, lsO_lst, rdO_lst, rdO_rol, lenO_lst, lenO_dic, lenO_rol, addO_lst, setO_lst, setO_dicI, setO_dicS, atI_zero, atI_one, atI_two, atI_end, startE, wipeE, List.map_cons, List.map_nil, List.length_cons, List.length_nil, List.replicate, List.cons_append, List.nil_append, Nat.reduceAdd, Nat.reduceSub, List.replicate_succ, List.replicate_zero, put_same, Nat.zero_le, Int.reduceLT, Int.reduceLE, Nat.reduceLT, Nat.reduceLeDiff, and_true, true_and, Bool.false_eq_true, ↓reduceIte, Bool.not_true, Bool.not_false, decide_true, decide_false, *])
local macro_rules | `(tactic| walk_at "i") => `(tactic| try simp only [mNeNil_a, mEqNil_a, nilO_ref, mRevS_a, rvsO_str, okPy_nil, List.isEmpty_nil, List.isEmpty_cons, sqIf_a, sqAsg_a, sqDrop_a, sqPar_a, sqPar3_a, sqRet_a, sqNext_a, sqSeq_a, sNext_a, sBreak_a, sCont_a, sDrop_a, sRet_a, sRetN_a, sIf_a, sAsg_a, sPar_a, sPar3_a, mVar_a, vAt_a, mC_a, mBin_a, mTest_a, bAt_a, mAnd_a, mOr_a, mNot_a, mYes_a, mAndV_a, mOrV_a, mNotV_a, mIf_a, mNil_a, mCons_a, mTup_a, mLst_a, mCall_a, mCallK_a, mMeth_a, mSl_a, mNoPart_a, iAt_a, mPart_a, mIsi_b, tysO_some, List.any_cons, List.any_nil, Bool.or_false, Bool.false_or, Bool.or_true, Bool.true_or, Int.natCast_pos, gN_a, gTup_a, gCons_a, gNil_a, gSub_a, sFor_a, mLc_a, mDc_a, wSeq_a, sqO_tup, sqO_str, sqO_ref, wRng1_a, wRng2_b, wRng3_b, wEnum_a, enO_tup, enO_ref, mRev_a, revO_ref, List.getD_cons_zero, List.getD_cons_succ, ite_self, List.set_cons_zero, List.set_cons_succ, List.getElem?_cons_zero, List.getElem?_cons_succ, oAdd_int, oAdd_str, oAdd_tup, oAdd_ref, oSub_int, oMul_int, oDiv_int, oMod_int, oPow_int, oLt_int, oLe_int, oGt_int, oGe_int, oIs_nn, oIs_bn, oIs_in, oIs_sn, oIs_tn, oIs_rn, oIs_bb, oIs_nb, oIs_ib, oIs_sb, oIs_tb, oIs_rb, oIsi_int, oIsi_str, oIsi_bool, oIsi_tuple, oIsi_list, oIsi_dict, tyO_some, tyD_non, tyD_bl, tyD_int, tyD_str, tyD_tup, isi_facts, oEq_int, oNe_int, oEq_str, oNe_str, oSl_tup, oSl_str, oSl_ref, oLen_tup, oLen_str, oLen_ref, oAbs_int, oInt_int, oInt_bl, oMax_int, oMin_int, oTuple_tup, oTuple_ref, oList_tup, oList_str, oList_ref, oIx_tupE, oIx_ref, oAppend_ref, oPop_ref, oExtend_tupE, oSet_ref, isL_ref, isS_str, vO_some, ixO_lst, ixO_dicI, ixO_dicS, ixO_rodI, ixO_rodS, lsO_lst, rdO_lst, rdO_rol, lenO_lst, lenO_dic, lenO_rol, addO_lst, setO_lst, setO_dicI, setO_dicS, atI_zero, atI_one, atI_two, atI_end, startE, wipeE, List.map_cons, List.map_nil, List.length_cons, List.length_nil, List.replicate, List.cons_append, List.nil_append, Nat.reduceAdd, Nat.reduceSub, List.replicate_succ, List.replicate_zero, put_same, Nat.zero_le, Int.reduceLT, Int.reduceLE, Nat.reduceLT, Nat.reduceLeDiff, and_true, true_and, Bool.false_eq_true, ↓reduceIte, Bool.not_true, Bool.not_false, decide_true, decide_false, *])
namespace TB
def S_law_names : DSp := fun vs st Q => ∃ (n m : Addr) (k : Nat), vs = [.ref n, .int k] ∧ Deal st n m ∧ k ≤ 1000 ∧
  ∀ (names : List Str) a st', names.length = k → (∀ x ∈ names, nmOk x) → (∀ x ∈ names, 1 ≤ x.length) → (k ≤ 26 → names.Nodup) → a ≠ n → a ≠ m → Nf st a → Up n m st st' → st' a = some (.lst (names.map D.str)) → Q (.ref a) st'
/-- _law_names(deal, many): 0 deal 1 many 2 found 3 kind 4 stem 5 spot 6 turn 7 name 8 again 9 sign -/
def t_law_names : MS := sSeq (sPar 2 3 (mCons (mLst (mNil)) (mCons (mCall S_law_any (mCons (mVar 0) (mCons (mC (.int 5)) (mNil)))) (mNil))))
    (sSeq (sAsg (mMeth isS oJoin (mC (.str "")) (mCons (mLc (wRng1 (mC (.int 7))) (gN 6) (mYes) (mCall S_law_of (mCons (mVar 0) (mCons (mC (.str "abcdefghijklmnopqrstuvwxyz")) (mNil)))) [6]) (mNil))) (gN 4))
    (sSeq (sAsg (mCall S_law_any (mCons (mVar 0) (mCons (mC (.int 8)) (mNil)))) (gN 5))
    (sSeq (sFor (wRng1 (mVar 1)) (gN 6) (sSeq (sIf (mTest (mBin oEq (mVar 3) (mC (.int 0)))) (sAsg (mBin oAdd (mBin oAdd (mSl (mVar 4) (mNoPart) (mPart (mVar 5))) (mCall S_law_of (mCons (mVar 0) (mCons (mC (.str "abcdefghijklmnopqrstuvwxyz")) (mNil))))) (mSl (mVar 4) (mPart (mVar 5)) (mNoPart))) (gN 7)) (sIf (mAnd (mTest (mBin oEq (mVar 3) (mC (.int 1)))) (mTest (mBin oEq (mCall S_law_any (mCons (mVar 0) (mCons (mC (.int 4)) (mNil)))) (mC (.int 0))))) (sAsg (mCall S_law_of (mCons (mVar 0) (mCons (mLst (mCons (mC (.str "by")) (mCons (mC (.str "at")) (mCons (mC (.str "same")) (mCons (mC (.str "use")) (mCons (mC (.str "left")) (mCons (mC (.str "right")) (mCons (mC (.str "rule")) (mCons (mC (.str "done")) (mCons (mC (.str "do")) (mCons (mC (.str "x")) (mCons (mC (.str "z")) (mCons (mC (.str "all")) (mNil)))))))))))))) (mNil)))) (gN 7)) (sAsg (mMeth isS oJoin (mC (.str "")) (mCons (mLc (wRng1 (mBin oAdd (mC (.int 1)) (mCall S_law_any (mCons (mVar 0) (mCons (mC (.int 8)) (mNil)))))) (gN 9) (mYes) (mCall S_law_of (mCons (mVar 0) (mCons (mC (.str "abcdefghijklmnopqrstuvwxyz")) (mNil)))) [9]) (mNil))) (gN 7))))
    (sSeq (sFor (wRng1 (mC (.int 40))) (gN 8) (sIf (mTest (mBin oIn (mVar 7) (mVar 2))) (sAsg (mCall S_law_next_name (mCons (mVar 7) (mNil))) (gN 7)) (sNext)))
    (sDrop (mMeth isL oAppend (mVar 2) (mCons (mVar 7) (mNil)))))))
    (sRet (mVar 2)))))
theorem az_mem {d : D} (h : d ∈ signsD az26) : ∃ s : Str, d = .str s ∧ s.length = 1 ∧ azOk s = true := by
  unfold signsD at h
  obtain ⟨c, hc, rfl⟩ := List.mem_map.mp h
  refine ⟨_, rfl, rfl, ?_⟩
  have := az26_ok.2.2 c hc
  unfold azOk
  simpa using this
theorem join_pos {s : Str} {cs : List Str} (h : s.length = 1) : 1 ≤ (Txt.join "" (s :: cs)).length := by
  rw [TL.join_eq]
  cases cs with
  | nil => show 1 ≤ s.length; omega
  | cons y r =>
    show 1 ≤ (s ++ "" ++ Str.join "" (y :: r)).length
    rw [len_app, len_app]
    omega
theorem az_join {cs : List Str} (h : ∀ s ∈ cs, s.length = 1 ∧ azOk s = true) : (Txt.join "" cs).length ≤ cs.length ∧ azOk (Txt.join "" cs) = true ∧ (cs.map (·.length)).sum = cs.length ∧ (cs ≠ [] → 1 ≤ (Txt.join "" cs).length) := by
  have l3 : (cs.map (·.length)).sum = cs.length := by
    induction cs with
    | nil => rfl
    | cons s cs ih =>
      simp only [List.map_cons, List.sum_cons, List.length_cons]
      have := (h s (List.mem_cons_self ..)).1
      have := ih fun s hs => h s (List.mem_cons_of_mem _ hs)
      omega
  refine ⟨?_, ?_, l3, fun hne => ?_⟩
  · have h := StrLaws.join_length_le "" cs
    rw [TL.join_eq]
    have e0 : ("" : Str).length = 0 := rfl
    rw [l3, e0] at h
    omega
  · unfold azOk
    rw [List.all_eq_true]
    intro c hc
    obtain ⟨s, hs, hcs⟩ := join_mem hc
    have := (h s hs).2
    unfold azOk at this
    rw [List.all_eq_true] at this
    exact this c hcs
  · cases cs with
    | nil => exact absurd rfl hne
    | cons s cs => exact join_pos (h s (List.mem_cons_self ..)).1
theorem az_cut {z : Str} (h : azOk z = true) (lo hi : Option Int) : azOk (cutS z lo hi) = true := by
  unfold azOk at *
  rw [List.all_eq_true] at *
  exact fun c hc => h c (cut_mem hc)
theorem sub_len : ∀ (a b : List Nat), a.Nodup → (∀ x ∈ a, x ∈ b) → a.length ≤ b.length
  | [], _, _, _ => Nat.zero_le _
  | x :: a, b, h, k => by
    rw [List.nodup_cons] at h
    have hx := k x (List.mem_cons_self ..)
    have := sub_len a (b.erase x) h.2 fun y hy => (List.mem_erase_of_ne (by rintro rfl; exact h.1 hy)).mpr (k y (List.mem_cons_of_mem _ hy))
    rw [List.length_erase_of_mem hx] at this
    have := List.length_pos_of_mem hx
    rw [List.length_cons]
    omega
/-- a circle of 26 names goes past all told ones -/
theorem circle {names : List Str} {L : Nat} (h : ∀ t, t < 40 → ∃ v ∈ names, lastN v = (L + t) % 26) : 26 ≤ names.length := by
  have := sub_len (List.range 26) (names.map lastN) List.nodup_range fun r hr => by
    have hr := List.mem_range.mp hr
    obtain ⟨v, hv, e⟩ := h ((r + (26 - L % 26)) % 26) (by omega)
    exact List.mem_map.mpr ⟨v, hv, by rw [e]; omega⟩
  simpa using this
def words12 : List Str := ["by", "at", "same", "use", "left", "right", "rule", "done", "do", "x", "z", "all"]
theorem words12_ok : ∀ x ∈ words12, azOk x = true ∧ x.length ≤ 8 ∧ 1 ≤ x.length := by decide +kernel
theorem Fm.strs1 {xs ys : List D} (h : Fm (fun _ o => ∃ s : Str, o = some (.str s) ∧ s.length = 1 ∧ azOk s = true) xs ys) : ∃ cs : List Str, ys = cs.map D.str ∧ cs.length = xs.length ∧ ∀ s ∈ cs, s.length = 1 ∧ azOk s = true := by
  induction h with
  | nil => exact ⟨[], rfl, rfl, fun _ h => by cases h⟩
  | yes a _ ih =>
    obtain ⟨cs, rfl, h1, h2⟩ := ih
    obtain ⟨s, e, p⟩ := a
    cases e
    refine ⟨s :: cs, rfl, by simp [h1], fun t ht => ?_⟩
    rcases List.mem_cons.mp ht with rfl | ht
    · exact p
    · exact h2 t ht
  | no a _ _ =>
    obtain ⟨s, e, _⟩ := a
    cases e
def t_else : MS := sAsg (mMeth isS oJoin (mC (.str "")) (mCons (mLc (wRng1 (mBin oAdd (mC (.int 1)) (mCall S_law_any (mCons (mVar 0) (mCons (mC (.int 8)) (mNil)))))) (gN 9) (mYes) (mCall S_law_of (mCons (mVar 0) (mCons (mC (.str "abcdefghijklmnopqrstuvwxyz")) (mNil)))) [9]) (mNil))) (gN 7)
theorem names_else {st st1 : Sto} {n m f : Addr} {xs : List D} {e1 e2 e3 e4 e5 e6 e7 e8 e9 : Option D} {nx rt bk ct : _} (u : Up n m st st1) (hf : f ≠ n ∧ f ≠ m) (lf : st1 f = some (.lst xs)) (q : ∀ (st2 : Sto) (name : Str), (name.length ≤ 20 ∧ 1 ≤ name.length) → azOk name = true → Up n m st st2 → st2 f = some (.lst xs) → nx [some (.ref n), e1, e2, e3, e4, e5, e6, some (.str name), e8, e9] st2) :
    t_else { nx := nx, rt := rt, bk := bk, ct := ct } [some (.ref n), e1, e2, e3, e4, e5, e6, e7, e8, e9] st1 := by
  have haz : az26.length ≤ sizeLine := by decide +kernel
  have hal : 0 < (signsD az26).length ∧ (signsD az26).length < 1000000 := by rw [signsD_len, az26_ok.1]; omega
  unfold t_else
  walk_at "s"
  refine ⟨n, m, 8, rfl, u.deal, by omega, by omega, fun v st4 v0 v1 u4 => ?_⟩
  have u5 := u.trans u4
  have lf5 := u4.l hf.1 hf.2 lf
  clear u u4 lf
  walk_at "s"
  refine ⟨by omega, lc_up (n := n) (m := m) (fun _ o => ∃ s : Str, o = some (.str s) ∧ s.length = 1 ∧ azOk s = true) u5.deal (fun _ _ => trivial) (by rw [rangeD_len, szL]; omega) (fun y hy st9 u9 P N hP hN => ?_) fun p9 ys st3 hp9 hF u10 lp9 => ?_⟩
  · clear hN
    walk_at "s"
    refine ⟨n, m, .str az26, signsD az26, rfl, u9.deal, ⟨haz, rfl⟩, hal.1, hal.2, fun d st10 hdm u11 => ?_⟩
    obtain ⟨s, rfl, h1, h2⟩ := az_mem hdm
    exact hP _ _ ⟨s, rfl, h1, h2⟩ u11
  obtain ⟨cs, rfl, hcl, hcs⟩ := Fm.strs1 hF
  obtain ⟨j1, j2, j3, j4⟩ := az_join hcs
  rw [rangeD_len] at hcl
  refine oJoin_l (by rw [lp9]; rfl) (by rw [j3, show ("" : Str).length = 0 from rfl, hcl]; omega) ?_
  have hq := q st3 _ ⟨by omega, j4 (by rintro rfl; simp at hcl; omega)⟩ j2 (u5.trans u10) (u10.l hf.1 hf.2 lf5)
  clear q
  walk_at "s"
theorem kp_law_names : Keeps 2 10 S_law_names t_law_names := by
  refine ⟨fun ds st Q ⟨n, m, k, e, _⟩ => by rw [e]; rfl, fun ds st Q ⟨n, m, k, e, hd, hk, q⟩ => ?_⟩
  subst e
  have z0 : 0 ≤ sizeLine := by decide
  have z12 : 0 + 1 + 1 + 1 + 1 + 1 + 1 + 1 + 1 + 1 + 1 + 1 + 1 ≤ sizeLine := by decide
  have haz : az26.length ≤ sizeLine := by decide +kernel
  have hal : 0 < (signsD az26).length ∧ (signsD az26).length < 1000000 := by rw [signsD_len, az26_ok.1]; omega
  unfold t_law_names
  refine sSeq_t fun T hT => ?_
  walk_at "s"
  intro f hf
  have fd := hf.deal hd
  have lf0 : put st f (.lst []) f = some (.lst (([] : List Str).map D.str)) := put_same
  have u0 := Up.of hd (Keep.put (o := .lst []) hf)
  generalize put st f (.lst []) = st1 at *
  refine ⟨n, m, 5, rfl, u0.deal, by omega, by omega, fun kind st2 _ _ u1 => ?_⟩
  have u2 := u0.trans u1
  have lf2 := u1.l fd.1 fd.2 lf0
  clear u0 u1 lf0
  subst hT
  refine sSeq_t fun T hT => ?_
  walk_at "s"
  refine ⟨by omega, lc_up (n := n) (m := m) (fun _ o => ∃ s : Str, o = some (.str s) ∧ s.length = 1 ∧ azOk s = true) u2.deal (fun _ _ => trivial) (by rw [rangeD_len, szL]; decide) (fun y hy st9 u9 P N hP hN => ?_) fun p9 ys st3 hp9 hF u10 lp9 => ?_⟩
  · clear hN
    walk_at "s"
    refine ⟨n, m, .str az26, signsD az26, rfl, u9.deal, ⟨haz, rfl⟩, hal.1, hal.2, fun d st10 hdm u11 => ?_⟩
    obtain ⟨s, rfl, h1, h2⟩ := az_mem hdm
    exact hP _ _ ⟨s, rfl, h1, h2⟩ u11
  obtain ⟨cs, rfl, hcl, hcs⟩ := Fm.strs1 hF
  obtain ⟨j1, j2, j3, j4⟩ := az_join hcs
  rw [rangeD_len] at hcl
  have u3 := u2.trans u10
  have lf3 := u10.l fd.1 fd.2 lf2
  clear u2 u10 lf2 hF
  refine oJoin_l (by rw [lp9]; rfl) (by rw [j3, show ("" : Str).length = 0 from rfl, hcl]; decide) ?_
  have hsl : (Txt.join "" cs).length ≤ 7 := by
    have : (7 : Int).toNat = 7 := rfl
    omega
  clear lp9 hp9 j1 j3 j4 hcs hcl
  generalize Txt.join "" cs = stem at *
  subst hT
  refine sSeq_t fun T hT => ?_
  walk_at "s"
  refine ⟨n, m, 8, rfl, u3.deal, by omega, by omega, fun spot st4 _ _ u4 => ?_⟩
  have u5 := u3.trans u4
  have lf5 := u4.l fd.1 fd.2 lf3
  clear u3 u4 lf3
  subst hT
  refine sSeq_i (fun env st' => ∃ g4 g5 g6 g7 g8 g9, env = [some (.ref n), some (.int (k : Nat)), some (.ref f), some (.int kind), g4, g5, g6, g7, g8, g9] ∧ Up n m st st' ∧ ∃ names : List Str, names.length = k ∧ (∀ x ∈ names, nmOk x) ∧ (∀ x ∈ names, 1 ≤ x.length) ∧ Hdn (k ≤ 26 → names.Nodup) ∧ st' f = some (.lst (names.map D.str))) (fun nx hnx => ?_) ?_
  · walk_at "s"
    refine ⟨by omega, fun i env st' => ∃ g6 g7 g8 g9, env = [some (.ref n), some (.int (k : Nat)), some (.ref f), some (.int kind), some (.str stem), some (.int spot), g6, g7, g8, g9] ∧ Up n m st st' ∧ ∃ names : List Str, names.length = i ∧ (∀ x ∈ names, nmOk x) ∧ (∀ x ∈ names, 1 ≤ x.length) ∧ Hdn (k ≤ 26 → names.Nodup) ∧ st' f = some (.lst (names.map D.str)), ⟨none, none, none, none, rfl, u5, [], rfl, fun x h => absurd h List.not_mem_nil, fun x h => absurd h List.not_mem_nil, hide fun _ => List.nodup_nil, lf5⟩, fun _ _ _ _ _ => trivial, ?_, ?_⟩
    · rintro i x env st6 hx ⟨g6, g7, g8, g9, rfl, u6, names, hnl, hnm, hn1, hnd, lf6⟩
      obtain ⟨hi, rfl⟩ := rangeD_get hx
      rw [Int.toNat_natCast] at hi
      clear hnx q u5 lf5 hx
      rw [gN_a]
      refine sSeq_i (fun env st' => ∃ g8 g9, ∃ name : Str, env = [some (.ref n), some (.int (k : Nat)), some (.ref f), some (.int kind), some (.str stem), some (.int spot), some (.int (0 + (i : Int))), some (.str name), g8, g9] ∧ (name.length ≤ 20 ∧ 1 ≤ name.length) ∧ azOk name = true ∧ Up n m st st' ∧ st' f = some (.lst (names.map D.str))) (fun nx2 hnx2 => ?_) ?_
      · by_cases hk0 : kind = 0
        · subst hk0
          walk_at "s"
          refine ⟨by rw [szL]; omega, ?_⟩
          refine ⟨n, m, .str az26, signsD az26, rfl, u6.deal, ⟨haz, rfl⟩, hal.1, hal.2, fun d st10 hdm u11 => ?_⟩
          obtain ⟨s, rfl, h1, h2⟩ := az_mem hdm
          have c1 := cut_len stem none (some spot)
          have c2 := cut_len stem (some spot) none
          have a1 := az_cut j2 none (some spot)
          have a2 := az_cut j2 (some spot) none
          have lf7 := u11.l fd.1 fd.2 lf6
          have u7 := u6.trans u11
          have hlen : (cutS stem none (some spot) ++ s ++ cutS stem (some spot) none).length ≤ 20 := by
            rw [len_app, len_app]
            omega
          have hz1 : (cutS stem none (some spot)).length + 1 ≤ sizeLine := by rw [szL]; omega
          have hz2 : stem.length ≤ sizeLine := by rw [szL]; omega
          have hz3 : (cutS stem none (some spot) ++ s).length + (cutS stem (some spot) none).length ≤ sizeLine := by rw [len_app, szL]; omega
          have hall : azOk (cutS stem none (some spot) ++ s ++ cutS stem (some spot) none) = true := az_cons (az_cons a1 h2) a2
          clear u6 lf6 u11 hdm
          walk_at "s"
          exact hnx2 _ _ ⟨_, _, _, rfl, ⟨hlen, by rw [len_app, len_app]; omega⟩, hall, u7, lf7⟩
        · have hC : sAsg (mMeth isS oJoin (mC (.str "")) (mCons (mLc (wRng1 (mBin oAdd (mC (.int 1)) (mCall S_law_any (mCons (mVar 0) (mCons (mC (.int 8)) (mNil)))))) (gN 9) (mYes) (mCall S_law_of (mCons (mVar 0) (mCons (mC (.str "abcdefghijklmnopqrstuvwxyz")) (mNil)))) [9]) (mNil))) (gN 7) = t_else := rfl
          rw [hC]
          clear hC
          by_cases hk1 : kind = 1
          · subst hk1
            clear hk0
            walk_at "s"
            refine ⟨n, m, 4, rfl, u6.deal, by omega, by omega, fun v st7 _ _ u7 => ?_⟩
            have u8 := u6.trans u7
            have lf7 := u7.l fd.1 fd.2 lf6
            clear u6 u7 lf6
            by_cases hv : v = 0
            · subst hv
              walk_at "s"
              intro p1 hp1
              have o1 := hp1.deal u8.deal
              have u9 := u8.then (Keep.put (o := .lst (words12.map D.str)) hp1)
              have lf8 := (Keep.put (o := .lst (words12.map D.str)) hp1).l lf7
              have l1 : put st7 p1 (.lst (words12.map D.str)) p1 = some (.lst (words12.map D.str)) := put_same
              refine ⟨n, m, .ref p1, words12.map D.str, rfl, u9.deal, ⟨o1.1, o1.2, l1⟩, by decide, by decide, fun d st10 hdm u11 => ?_⟩
              obtain ⟨s, hs, rfl⟩ := List.mem_map.mp hdm
              have hw := words12_ok s hs
              have lf9 := u11.l fd.1 fd.2 lf8
              have u12 := u9.trans u11
              clear u8 u9 lf7 lf8 u11 hdm
              walk_at "s"
              exact hnx2 _ _ ⟨_, _, _, rfl, ⟨by omega, hw.2.2⟩, hw.1, u12, lf9⟩
            · walk_at "s"
              exact names_else u8 fd lf7 fun st2 name h1 h2 h3 h4 => hnx2 _ _ ⟨_, _, _, rfl, h1, h2, h3, h4⟩
          · walk_at "s"
            exact names_else u6 fd lf6 fun st2 name h1 h2 h3 h4 => hnx2 _ _ ⟨_, _, _, rfl, h1, h2, h3, h4⟩
      · rintro env st7 ⟨g8, g9, name, rfl, n1, n2, u7, lf7⟩
        clear u6 lf6
        have hst : Hdn (∃ L : Nat, (∀ t, t < 0 → ∃ v ∈ names, lastN v = (L + t) % 26) ∧ lastN name = (L + 0) % 26) := hide ⟨lastN name, fun t h => absurd h (Nat.not_lt_zero t), by rw [Nat.add_zero, lastN_mod n2]⟩
        refine sSeq_i (fun env st' => ∃ g8 g9, ∃ name : Str, env = [some (.ref n), some (.int (k : Nat)), some (.ref f), some (.int kind), some (.str stem), some (.int spot), some (.int (0 + (i : Int))), some (.str name), g8, g9] ∧ (name.length ≤ 20 ∧ 1 ≤ name.length) ∧ azOk name = true ∧ Hdn (k ≤ 26 → name ∉ names) ∧ Up n m st st' ∧ st' f = some (.lst (names.map D.str))) (fun nx2 hnx2 => ?_) ?_
        · walk_at "s"
          refine ⟨by omega, fun j env st' => ∃ g8 g9, ∃ name : Str, env = [some (.ref n), some (.int (k : Nat)), some (.ref f), some (.int kind), some (.str stem), some (.int spot), some (.int (0 + (i : Int))), some (.str name), g8, g9] ∧ (name.length ≤ 20 ∧ 1 ≤ name.length) ∧ azOk name = true ∧ Hdn (name ∉ names ∨ ∃ L : Nat, (∀ t, t < j → ∃ v ∈ names, lastN v = (L + t) % 26) ∧ lastN name = (L + j) % 26) ∧ Up n m st st' ∧ st' f = some (.lst (names.map D.str)), ⟨_, _, name, rfl, n1, n2, hide (.inr hst.out), u7, lf7⟩, fun _ _ _ _ _ => trivial, ?_, ?_⟩
          · rintro j x env st8 hx ⟨g8, g9, name, rfl, n1, n2, hcir, u7, lf7⟩
            clear hnx2 hx hst
            rw [gN_a]
            have f1 := flat_strs names
            have f2 := inF_strs name names
            have f3 : flatD (.str name) = true := rfl
            have ho : ∀ (Q : DK), Q (.bl (decide (name ∈ names))) st8 → oIn (.str name) (.ref f) st8 Q := fun Q hQ => oIn_l (by rw [lf7]; rfl) f3 f1 (by rw [f2]; exact hQ)
            rw [sIf_a]
            simp only [mTest_a, mBin_a, mVar_a, vAt_a, vO_some, List.set_cons_zero, List.set_cons_succ, List.getElem?_cons_zero, List.getElem?_cons_succ]
            refine ho _ ?_
            clear ho f1 f2 f3
            by_cases c : name ∈ names
            · walk_at "s"
              refine ⟨name, rfl, by omega, fun y hy hay hny => ?_⟩
              have hny := hide hny
              have hcn := hide c
              have hn12 := hide (And.intro n1 n2)
              clear c
              walk_at "s"
              refine ⟨_, _, y, rfl, by omega, hay, ?_⟩
              rcases hcir.out with h | ⟨L, h1, h2⟩
              · exact absurd hcn.out h
              · refine hide (.inr ⟨L, fun t ht => ?_, ?_⟩)
                · by_cases e : t = j
                  · subst e
                    exact ⟨name, hcn.out, h2⟩
                  · exact h1 t (by omega)
                · rw [hny.out hn12.out.2 (by have := hn12.out.1.2; omega), h2]
                  omega
            · walk_at "s"
              exact ⟨_, _, name, rfl, n1, n2, hide (.inl ‹_›)⟩
          · rintro env st8 ⟨g8, g9, name, rfl, n1, n2, hcir, u7, lf7⟩
            rw [rangeD_len] at hcir
            refine hnx2 _ _ ⟨g8, g9, name, rfl, n1, n2, hide fun hk26 => ?_, u7, lf7⟩
            rcases hcir.out with h | ⟨L, h1, h2⟩
            · exact h
            · have := circle (names := names) (L := L) fun t ht => h1 t (by have e : (40 : Int).toNat = 40 := rfl; rw [e]; exact ht)
              omega
        · rintro env st8 ⟨g8, g9, name, rfl, n1, n2, hnin, u7, lf7⟩
          have hsz : (names.map D.str).length < sizeLine := by rw [List.length_map, szL]; omega
          walk_at "s"
          exact ⟨_, _, _, _, rfl, u7.put hf fd.1 fd.2, names ++ [name], by rw [List.length_append, hnl]; rfl, fun x hx => (by
            rcases List.mem_append.mp hx with hx | hx
            · exact hnm x hx
            · rw [List.mem_singleton.mp hx]; exact ⟨n2, n1.1⟩), fun x hx => (by
            rcases List.mem_append.mp hx with hx | hx
            · exact hn1 x hx
            · rw [List.mem_singleton.mp hx]; exact n1.2), hide fun h26 => (by
            rw [List.nodup_append]
            refine ⟨hnd.out h26, by simp, fun a ha b hb e => ?_⟩
            rw [List.mem_singleton.mp hb] at e
            rw [e] at ha
            exact hnin.out h26 ha), by rw [List.map_append]; rfl⟩
    · rintro env st6 ⟨g6, g7, g8, g9, rfl, u6, names, hnl, hnm, hn1, hnd, lf6⟩
      rw [rangeD_len, Int.toNat_natCast] at hnl
      exact hnx _ _ ⟨_, _, _, _, _, _, rfl, u6, names, hnl, hnm, hn1, hnd, lf6⟩
  · rintro env st6 ⟨g4, g5, g6, g7, g8, g9, rfl, u6, names, hnl, hnm, hn1, hnd, lf6⟩
    walk_at "s"
    exact endsOf_i (q names f st6 hnl hnm hn1 hnd.out fd.1 fd.2 hf u6 lf6)
end TB
end L2.DL

namespace L2.DL
open PySem PySem.Spec PyProof.Rows
namespace TB
/-! lines as they are looked at by what they touch -/
/-- data with truth values, of a depth -/
inductive Pd : Nat → D → Prop
  | bl {k : Nat} (b : Bool) : Pd k (.bl b)
  | int {k : Nat} (i : Int) : Pd k (.int i)
  | str {k : Nat} {x : Str} : PyData.strOk x = true → Pd k (.str x)
  | tup {k : Nat} {xs : List D} : (∀ x ∈ xs, Pd k x) → Pd (k + 1) (.tup xs)
theorem pds_py {k : Nat} : ∀ {xs : List D}, (∀ x ∈ xs, ∃ p, toPy x = some p ∧ p.canLay0 = true ∧ p.depth ≤ k) → ∃ ps, toPys xs = some ps ∧ PyData.canLayAll0 ps = true ∧ PyData.depthAll ps ≤ k
  | [], _ => ⟨[], rfl, rfl, Nat.zero_le _⟩
  | x :: xs, h => by
    obtain ⟨p, a1, a2, a3⟩ := h x (List.mem_cons_self ..)
    obtain ⟨ps, b1, b2, b3⟩ := pds_py fun y hy => h y (List.mem_cons_of_mem _ hy)
    exact ⟨p :: ps, by rw [toPys, a1, b1]; rfl, by rw [PyData.canLayAll0, a2, b2]; rfl, by rw [PyData.depthAll]; omega⟩
theorem Pd.py {k : Nat} {d : D} (h : Pd k d) : ∃ p, toPy d = some p ∧ p.canLay0 = true ∧ p.depth ≤ k := by
  induction h with
  | bl b => exact ⟨_, rfl, rfl, Nat.zero_le _⟩
  | int i => exact ⟨_, rfl, rfl, Nat.zero_le _⟩
  | str h => exact ⟨_, rfl, h, Nat.zero_le _⟩
  | tup h ih =>
    obtain ⟨ps, h1, h2, h3⟩ := pds_py ih
    exact ⟨.tuple ps, by rw [toPy, h1]; rfl, h2, by rw [PyData.depth]; omega⟩
theorem okPy_pd {k : Nat} {xs : List D} (h : ∀ x ∈ xs, Pd k x) (hk : k ≤ 63) : okPy xs := by
  obtain ⟨ps, h1, h2, h3⟩ := pds_py fun x hx => (h x hx).py
  refine ⟨ps, h1, ?_⟩
  unfold SeqAt.shaped
  rw [PyData.canLay0, h2, PyData.depth]
  simp
  omega
theorem Pd.mono {k : Nat} {d : D} (h : Pd k d) : ∀ {j : Nat}, k ≤ j → Pd j d := by
  induction h with
  | bl b => exact fun _ => .bl b
  | int i => exact fun _ => .int i
  | str h => exact fun _ => .str h
  | tup h ih =>
    intro j hj
    cases j with
    | zero => omega
    | succ j => exact .tup fun x hx => ih x hx (by omega)
theorem Pd.nm {k : Nat} {x : Str} (h : nmOk x) : Pd k (.str x) := .str (nmOk_str h)
theorem Pd.term {t : Term} (h : ∀ s ∈ t, nmOk s.1) : Pd 2 (termD t) := .tup fun d hd => by
  obtain ⟨s, hs, rfl⟩ := List.mem_map.mp hd
  refine .tup fun y hy => ?_
  rcases List.mem_cons.mp hy with rfl | hy
  · exact .nm (h s hs)
  · rw [List.mem_singleton.mp hy]
    exact .int _
def tellW : List Str := ["sort", "open", "make", "do", "word"]
inductive Ln where
  | tell (w x : Str) (r : List D)
  | rule (t : Term) (r : List D)
  | other (w : Str) (r : List D)
def lnD : Ln → D
  | .tell w x r => .tup (.str w :: .str x :: r)
  | .rule t r => .tup (.str "rule" :: termD t :: r)
  | .other w r => .tup (.str w :: r)
def LnOk (l : Ln) : Prop := Pd 40 (lnD l) ∧ match l with
  | .tell w x _ => w ∈ tellW ∧ nmOk x ∧ 1 ≤ x.length
  | .rule t _ => t.length ≤ 6 ∧ ∀ s ∈ t, nmOk s.1 ∧ -1 ≤ s.2
  | .other w _ => w ∉ tellW ∧ w ≠ "rule"
def told : Ln → Str
  | .tell _ x _ => x
  | _ => ""
def nmsT (t : Term) : List Str := (t.filter fun s => decide (s.2 ≠ -1)).map (·.1)
def leftN : Ln → List Str
  | .rule t _ => sortBy id (TxS.met [] (nmsT t))
  | _ => []
def isAll : Ln → Bool
  | .other w _ => decide (w = "all")
  | _ => false
def touchP (ls : List Ln) : List Str := ls.flatMap leftN ++ (ls.filter fun l => decide (told l ≠ "")).map told ++ if (ls.filter isAll).isEmpty = true then ([] : List Str) else (["all"] : List Str)
def touchL1 : Ln → List Str
  | .tell _ x _ => [x]
  | .rule t _ => nmsT t
  | .other w _ => if w = "all" then ["all"] else []
def touchL (ls : List Ln) : List Str := ls.flatMap touchL1
def ddS : List Str → List Str → List Str
  | acc, [] => acc
  | acc, x :: xs => ddS (if acc.getLast? = some x then acc else acc ++ [x]) xs
def lotS (L : List Str) : List Str := ddS [] (sortBy id L)
theorem leS_refl (x : Str) : leS x x = true := by
  have := leS_total x x
  simpa using this
theorem last_le {acc : List Str} {y a : Str} (hl : acc.getLast? = some y) (hp : acc.Pairwise fun x y => leS x y = true) (ha : a ∈ acc) : leS a y = true := by
  obtain ⟨pre, rfl⟩ := List.getLast?_eq_some_iff.mp hl
  rcases List.mem_append.mp ha with h | h
  · rw [List.pairwise_append] at hp
    exact hp.2.2 a h y (List.mem_singleton.mpr rfl)
  · rw [List.mem_singleton.mp h]; exact leS_refl y
theorem ddS_ok : ∀ (xs acc : List Str), acc.Nodup → (acc.Pairwise fun x y => leS x y = true) → (xs.Pairwise fun x y => leS x y = true) → (∀ a ∈ acc, ∀ x ∈ xs, leS a x = true) →
    (ddS acc xs).Nodup ∧ ((ddS acc xs).Pairwise fun x y => leS x y = true) ∧ ∀ y, y ∈ ddS acc xs ↔ y ∈ acc ∨ y ∈ xs
  | [], acc, h1, h2, _, _ => ⟨h1, h2, fun y => by simp [ddS]⟩
  | x :: xs, acc, h1, h2, h3, h4 => by
    rw [List.pairwise_cons] at h3
    have h4x : ∀ a ∈ acc, leS a x = true := fun a ha => h4 a ha x (List.mem_cons_self ..)
    rw [ddS]
    by_cases c : acc.getLast? = some x
    · rw [if_pos c]
      obtain ⟨r1, r2, r3⟩ := ddS_ok xs acc h1 h2 h3.2 fun a ha y hy => h4 a ha y (List.mem_cons_of_mem _ hy)
      refine ⟨r1, r2, fun y => ?_⟩
      rw [r3, List.mem_cons]
      have hx := List.mem_of_getLast? c
      constructor
      · rintro (h | h)
        · exact .inl h
        · exact .inr (.inr h)
      · rintro (h | rfl | h)
        · exact .inl h
        · exact .inl hx
        · exact .inr h
    · rw [if_neg c]
      have hx : x ∉ acc := fun hx => by
        cases e : acc.getLast? with
        | none => rw [List.getLast?_eq_none_iff] at e; rw [e] at hx; cases hx
        | some y =>
          have a1 := last_le e h2 hx
          have a2 := h4x y (List.mem_of_getLast? e)
          rw [leS_antisymm a1 a2] at c
          exact c e
      obtain ⟨r1, r2, r3⟩ := ddS_ok xs (acc ++ [x]) (by
        rw [List.nodup_append]
        refine ⟨h1, by simp, fun a ha b hb e => ?_⟩
        rw [List.mem_singleton.mp hb] at e
        rw [e] at ha
        exact hx ha) (by
        rw [List.pairwise_append]
        refine ⟨h2, by simp, fun a ha b hb => ?_⟩
        rw [List.mem_singleton.mp hb]
        exact h4x a ha) h3.2 (fun a ha y hy => by
        rcases List.mem_append.mp ha with ha | ha
        · exact h4 a ha y (List.mem_cons_of_mem _ hy)
        · rw [List.mem_singleton.mp ha]; exact h3.1 y hy)
      refine ⟨r1, r2, fun y => ?_⟩
      rw [r3, List.mem_append, List.mem_singleton, List.mem_cons, or_assoc]
theorem sets_eq {a b : List Str} (da : a.Nodup) (db : b.Nodup) (sa : a.Pairwise fun x y => leS x y = true) (sb : b.Pairwise fun x y => leS x y = true) (h : ∀ x, x ∈ a ↔ x ∈ b) : a = b := by
  have p : a.Perm b := (List.perm_ext_iff_of_nodup da db).mpr h
  have e1 : a = sortBy id b := sortBy_eq p sa fun x _ y _ e => e
  have e2 : b = sortBy id b := sortBy_eq (.refl _) sb fun x _ y _ e => e
  rw [e1, ← e2]
theorem met_sorted (L : List Str) : (sortBy id (TxS.met [] L)).Nodup ∧ ((sortBy id (TxS.met [] L)).Pairwise fun x y => leS x y = true) ∧ ∀ y, y ∈ sortBy id (TxS.met [] L) ↔ y ∈ L := by
  refine ⟨(sortBy_perm id _).nodup_iff.mpr (TxS.met_nd _ _ List.nodup_nil), sortBy_sorted id _, fun y => ?_⟩
  rw [(sortBy_perm id _).mem_iff, TxS.met_mem]
  simp
theorem lotS_ok (L : List Str) : (lotS L).Nodup ∧ ((lotS L).Pairwise fun x y => leS x y = true) ∧ ∀ y, y ∈ lotS L ↔ y ∈ L := by
  obtain ⟨r1, r2, r3⟩ := ddS_ok (sortBy id L) [] List.nodup_nil List.Pairwise.nil (sortBy_sorted id L) (fun a ha => absurd ha List.not_mem_nil)
  refine ⟨r1, r2, fun y => ?_⟩
  rw [lotS, r3, (sortBy_perm id L).mem_iff]
  simp
theorem lot_eq {P L : List Str} (h : ∀ y, y ∈ P ↔ y ∈ L) : sortBy id (TxS.met [] P) = lotS L := by
  obtain ⟨a1, a2, a3⟩ := met_sorted P
  obtain ⟨b1, b2, b3⟩ := lotS_ok L
  exact sets_eq a1 b1 a2 b2 fun y => by rw [a3, b3, h]
theorem touch_mem {ls : List Ln} (h : ∀ l ∈ ls, LnOk l) (y : Str) : y ∈ touchP ls ↔ y ∈ touchL ls := by
  unfold touchP touchL
  rw [List.mem_append, List.mem_append, List.mem_flatMap, List.mem_flatMap]
  constructor
  · rintro ((⟨l, hl, hy⟩ | hy) | hy)
    · refine ⟨l, hl, ?_⟩
      cases l with
      | tell w x r => cases hy
      | rule t r => exact (met_sorted _).2.2 y |>.mp hy
      | other w r => cases hy
    · obtain ⟨l, hl, rfl⟩ := List.mem_map.mp hy
      rw [List.mem_filter] at hl
      refine ⟨l, hl.1, ?_⟩
      cases l with
      | tell w x r => exact List.mem_singleton.mpr rfl
      | rule t r => exact absurd rfl (of_decide_eq_true hl.2)
      | other w r => exact absurd rfl (of_decide_eq_true hl.2)
    · by_cases c : (ls.filter isAll).isEmpty = true
      · rw [if_pos c] at hy; cases hy
      · rw [if_neg c] at hy
        cases e : ls.filter isAll with
        | nil => rw [e] at c; exact absurd rfl c
        | cons l r =>
          have hl : l ∈ ls.filter isAll := by rw [e]; exact List.mem_cons_self ..
          rw [List.mem_filter] at hl
          refine ⟨l, hl.1, ?_⟩
          cases l with
          | tell w x r => cases hl.2
          | rule t r => cases hl.2
          | other w r =>
            have := of_decide_eq_true hl.2
            show y ∈ if w = "all" then _ else _
            rw [if_pos this]
            exact hy
  · rintro ⟨l, hl, hy⟩
    cases l with
    | tell w x r =>
      refine .inl (.inr (List.mem_map.mpr ⟨_, List.mem_filter.mpr ⟨hl, ?_⟩, (List.mem_singleton.mp hy).symm⟩))
      have h1 := (h _ hl).2.2.2
      refine decide_eq_true fun e => ?_
      have e : x = "" := e
      rw [e] at h1
      exact absurd h1 (by decide)
    | rule t r => exact .inl (.inl ⟨_, hl, ((met_sorted _).2.2 y).mpr hy⟩)
    | other w r =>
      have hy : y ∈ if w = "all" then (["all"] : List Str) else [] := hy
      by_cases c : w = "all"
      · rw [if_pos c] at hy
        refine .inr ?_
        have : (Ln.other w r) ∈ ls.filter isAll := List.mem_filter.mpr ⟨hl, decide_eq_true c⟩
        rw [if_neg]
        · exact hy
        · intro e
          rw [List.isEmpty_iff] at e
          rw [e] at this
          cases this
      · rw [if_neg c] at hy; cases hy
theorem touch_eq {ls : List Ln} (h : ∀ l ∈ ls, LnOk l) : sortBy id (TxS.met [] (touchP ls)) = lotS (touchL ls) := lot_eq (touch_mem h)
theorem touch_rev {ls : List Ln} (h : ∀ l ∈ ls, LnOk l) : sortBy id (TxS.met [] (touchP ls.reverse)) = lotS (touchL ls) := lot_eq fun y => by
  rw [touch_mem fun l hl => h l (List.mem_reverse.mp hl)]
  unfold touchL
  simp only [List.mem_flatMap, List.mem_reverse]
theorem nmsT_len (t : Term) : (nmsT t).length ≤ t.length := by
  unfold nmsT
  rw [List.length_map]
  exact List.length_filter_le ..
theorem leftN_len {l : Ln} (h : LnOk l) : (leftN l).length ≤ 6 := by
  cases l with
  | tell w x r => exact Nat.zero_le _
  | other w r => exact Nat.zero_le _
  | rule t r =>
    show (sortBy id (TxS.met [] (nmsT t))).length ≤ 6
    rw [(sortBy_perm id _).length_eq]
    have h1 := TxS.met_len (nmsT t) []
    have h2 := nmsT_len t
    have h3 := h.2.1
    simp only [List.length_nil] at h1
    omega
theorem touchL1_len {l : Ln} (h : LnOk l) : (touchL1 l).length ≤ 6 := by
  cases l with
  | tell w x r => exact Nat.le_of_ble_eq_true rfl
  | other w r =>
    show (if w = "all" then (["all"] : List Str) else []).length ≤ 6
    split
    · exact Nat.le_of_ble_eq_true rfl
    · exact Nat.zero_le _
  | rule t r =>
    have h2 := nmsT_len t
    have h3 := h.2.1
    show (nmsT t).length ≤ 6
    omega
theorem flat_len {f : Ln → List Str} : ∀ {ls : List Ln}, (∀ l ∈ ls, (f l).length ≤ 6) → (ls.flatMap f).length ≤ 6 * ls.length
  | [], _ => Nat.zero_le _
  | l :: ls, h => by
    have h1 := h l (List.mem_cons_self ..)
    have h2 := flat_len (f := f) fun y hy => h y (List.mem_cons_of_mem l hy)
    rw [List.flatMap_cons, List.length_append, List.length_cons]
    omega
theorem touchL_len {ls : List Ln} (h : ∀ l ∈ ls, LnOk l) : (touchL ls).length ≤ 6 * ls.length := flat_len fun l hl => touchL1_len (h l hl)
theorem lefts_len {ls : List Ln} (h : ∀ l ∈ ls, LnOk l) : (ls.flatMap leftN).length ≤ 6 * ls.length := flat_len fun l hl => leftN_len (h l hl)
theorem touchP_len {ls : List Ln} (h : ∀ l ∈ ls, LnOk l) : (touchP ls).length ≤ 7 * ls.length + 1 := by
  unfold touchP
  have h1 := lefts_len h
  have h2 := List.length_filter_le (fun l => decide (told l ≠ "")) ls
  have h3 : (if (ls.filter isAll).isEmpty = true then [] else (["all"] : List Str)).length ≤ 1 := by
    split
    · exact Nat.zero_le _
    · exact Nat.le_refl _
  rw [List.length_append, List.length_append, List.length_map]
  omega
end TB
end L2.DL

namespace L2.DL
open PySem PySem.Spec PyProof.Rows
local macro_rules | `(tactic| walk_at "s") => `(tactic| try simp only [mNeNil_a, mEqNil_a, nilO_ref, mRevS_a, rvsO_str, okPy_nil, List.isEmpty_nil, List.isEmpty_cons, sqAsg_a, sqDrop_a, sqPar_a, sqPar3_a, sqRet_a, sqNext_a, sqSeq_a, sNext_a, sBreak_a, sCont_a, sDrop_a, sRet_a, sRetN_a, sIf_a, sAsg_a, sPar_a, sPar3_a, mVar_a, vAt_a, mC_a, mBin_a, mTest_a, bAt_a, mAnd_a, mOr_a, mNot_a, mYes_a, mAndV_a, mOrV_a, mNotV_a, mIf_a, mNil_a, mCons_a, mTup_a, mLst_a, mCall_a, mCallK_a, mMeth_a, mSl_a, mNoPart_a, iAt_a, mPart_a, mIsi_b, tysO_some, List.any_cons, List.any_nil, Bool.or_false, Bool.false_or, Bool.or_true, Bool.true_or, Int.natCast_pos, gN_a, gTup_a, gCons_a, gNil_a, gSub_a, sFor_a, mLc_a, mDc_a, wSeq_a, sqO_tup, sqO_str, sqO_ref, wRng1_a, wRng2_b, wRng3_b, wEnum_a, enO_tup, enO_ref, mRev_a, revO_ref, List.getD_cons_zero, List.getD_cons_succ, ite_self, List.set_cons_zero, List.set_cons_succ, List.getElem?_cons_zero, List.getElem?_cons_succ, oAdd_int, oAdd_str, oAdd_tup, oAdd_ref, oSub_int, oMul_int, oDiv_int, oMod_int, oPow_int, oLt_int, oLe_int, oGt_int, oGe_int, oIs_nn, oIs_bn, oIs_in, oIs_sn, oIs_tn, oIs_rn, oIs_bb, oIs_nb, oIs_ib, oIs_sb, oIs_tb, oIs_rb, oIsi_int, oIsi_str, oIsi_bool, oIsi_tuple, oIsi_list, oIsi_dict, tyO_some, tyD_non, tyD_bl, tyD_int, tyD_str, tyD_tup, isi_facts, oEq_int, oNe_int, oEq_str, oNe_str, oSl_tup, oSl_str, oSl_ref, oLen_tup, oLen_str, oLen_ref, oAbs_int, oInt_int, oInt_bl, oMax_int, oMin_int, oTuple_tup, oTuple_ref, oList_tup, oList_str, oList_ref, oIx_tupE, oIx_ref, oAppend_ref, oPop_ref, oExtend_tupE, oSet_ref, isL_ref, isS_str, vO_some, ixO_lst, ixO_dicI, ixO_dicS, ixO_rodI, ixO_rodS, lsO_lst, rdO_lst, rdO_rol, lenO_lst, lenO_dic, lenO_rol, addO_lst, setO_lst, setO_dicI, setO_dicS, atI_zero, atI_one, atI_two, atI_end, startE, wipeE, List.map_cons, List.map_nil, List.length_cons, List.length_nil, List.replicate, List.cons_append, List.nil_append, Nat.reduceAdd, Nat.reduceSub, List.replicate_succ, List.replicate_zero, put_same, Nat.zero_le, Int.reduceLT, Int.reduceLE, Nat.reduceLT, Nat.reduceLeDiff, and_true, true_and, Bool.false_eq_true, ↓reduceIte, Bool.not_true, Bool.not_false, decide_true, decide_false, *])
local macro_rules | `(tactic| walk_at "i") => `(tactic| try simp only [mNeNil_a, mEqNil_a, nilO_ref, mRevS_a, rvsO_str, okPy_nil, List.isEmpty_nil, List.isEmpty_cons, sqIf_a, sqAsg_a, sqDrop_a, sqPar_a, sqPar3_a, sqRet_a, sqNext_a, sqSeq_a, sNext_a, sBreak_a, sCont_a, sDrop_a, sRet_a, sRetN_a, sIf_a, sAsg_a, sPar_a, sPar3_a, mVar_a, vAt_a, mC_a, mBin_a, mTest_a, bAt_a, mAnd_a, mOr_a, mNot_a, mYes_a, mAndV_a, mOrV_a, mNotV_a, mIf_a, mNil_a, mCons_a, mTup_a, mLst_a, mCall_a, mCallK_a, mMeth_a, mSl_a, mNoPart_a, iAt_a, mPart_a, mIsi_b, tysO_some, List.any_cons, List.any_nil, Bool.or_false, Bool.false_or, Bool.or_true, Bool.true_or, Int.natCast_pos, gN_a, gTup_a, gCons_a, gNil_a, gSub_a, sFor_a, mLc_a, mDc_a, wSeq_a, sqO_tup, sqO_str, sqO_ref, wRng1_a, wRng2_b, wRng3_b, wEnum_a, enO_tup, enO_ref, mRev_a, revO_ref, List.getD_cons_zero, List.getD_cons_succ, ite_self, List.set_cons_zero, List.set_cons_succ, List.getElem?_cons_zero, List.getElem?_cons_succ, oAdd_int, oAdd_str, oAdd_tup, oAdd_ref, oSub_int, oMul_int, oDiv_int, oMod_int, oPow_int, oLt_int, oLe_int, oGt_int, oGe_int, oIs_nn, oIs_bn, oIs_in, oIs_sn, oIs_tn, oIs_rn, oIs_bb, oIs_nb, oIs_ib, oIs_sb, oIs_tb, oIs_rb, oIsi_int, oIsi_str, oIsi_bool, oIsi_tuple, oIsi_list, oIsi_dict, tyO_some, tyD_non, tyD_bl, tyD_int, tyD_str, tyD_tup, isi_facts, oEq_int, oNe_int, oEq_str, oNe_str, oSl_tup, oSl_str, oSl_ref, oLen_tup, oLen_str, oLen_ref, oAbs_int, oInt_int, oInt_bl, oMax_int, oMin_int, oTuple_tup, oTuple_ref, oList_tup, oList_str, oList_ref, oIx_tupE, oIx_ref, oAppend_ref, oPop_ref, oExtend_tupE, oSet_ref, isL_ref, isS_str, vO_some, ixO_lst, ixO_dicI, ixO_dicS, ixO_rodI, ixO_rodS, lsO_lst, rdO_lst, rdO_rol, lenO_lst, lenO_dic, lenO_rol, addO_lst, setO_lst, setO_dicI, setO_dicS, atI_zero, atI_one, atI_two, atI_end, startE, wipeE, List.map_cons, List.map_nil, List.length_cons, List.length_nil, List.replicate, List.cons_append, List.nil_append, Nat.reduceAdd, Nat.reduceSub, List.replicate_succ, List.replicate_zero, put_same, Nat.zero_le, Int.reduceLT, Int.reduceLE, Nat.reduceLT, Nat.reduceLeDiff, and_true, true_and, Bool.false_eq_true, ↓reduceIte, Bool.not_true, Bool.not_false, decide_true, decide_false, *])
namespace TB
theorem at0 (x : D) (xs : List D) : atI (x :: xs) 0 = some x := by rw [show (0 : Int) = ((0 : Nat) : Int) from rfl, atI_ofNat]; rfl
theorem at1 (x y : D) (xs : List D) : atI (x :: y :: xs) 1 = some y := by rw [show (1 : Int) = ((1 : Nat) : Int) from rfl, atI_ofNat]; rfl
def onNm : D → Option Str
  | .tup [.str x, .int i] => if i ≠ -1 then some x else none
  | _ => none
theorem onNm_sign (s : Sign) : onNm (signD s) = if s.2 ≠ -1 then some s.1 else none := rfl
theorem onNm_map : ∀ t : Term, (t.map signD).filterMap onNm = nmsT t
  | [] => rfl
  | s :: t => by
    have ih := onNm_map t
    by_cases c : s.2 ≠ -1
    · have e : nmsT (s :: t) = s.1 :: nmsT t := by unfold nmsT; rw [List.filter_cons_of_pos (by simpa using c), List.map_cons]
      rw [List.map_cons, List.filterMap_cons_some (b := s.1) (by rw [onNm_sign, if_pos c]), ih, e]
    · have e : nmsT (s :: t) = nmsT t := by unfold nmsT; rw [List.filter_cons_of_neg (by simpa using c)]
      rw [List.map_cons, List.filterMap_cons_none (by rw [onNm_sign, if_neg c]), ih, e]
theorem met_lt (L : List Str) (h : L.length < 60) : (TxS.met [] L).length < 60 := by
  have := TxS.met_len L []
  simp only [List.length_nil] at this
  omega
def S_names_of : DSp := fun vs st Q => ∃ t : Term, vs = [termD t] ∧ t.length ≤ 50 ∧ ∀ st', Keep st st' → Q (.tup ((sortBy id (TxS.met [] (nmsT t))).map D.str)) st'
/-- names_of(term): 0 term 1 name 2 many -/
def t_names_of : MS := sRet (mCall oTuple (mCons (mSortSc (wSeq (mVar 0)) (gTup 2 (gCons (gN 1) (gCons (gN 2) (gNil)))) (mTest (mBin oNe (mVar 2) (mC (.int (-1))))) (mVar 1) [1, 2]) (mNil)))
theorem kp_names_of : Keeps 1 3 S_names_of t_names_of := by
  refine ⟨fun ds st Q ⟨s, e, _⟩ => by rw [e]; rfl, fun ds st Q ⟨t, e, hl, q⟩ => ?_⟩
  subst e
  have hn := nmsT_len t
  have hm := met_lt (nmsT t) (by omega)
  unfold t_names_of
  unfold termD
  walk_at "s"
  rw [mSortSc_a]
  walk_at "s"
  have em := onNm_map t
  refine sc_keep onNm (fun _ _ => trivial) (by rw [em]; omega) (fun y hy st2 u2 P N hP hN => ?_) fun p st1 hp u1 l1 => ?_
  · obtain ⟨s, hs, rfl⟩ := List.mem_map.mp hy
    rw [onNm_sign] at hP hN
    unfold signD
    clear em
    by_cases c : s.2 = -1
    · rw [if_neg (by simp [c])] at hN
      have h1 := hN st2 rfl .refl
      clear hP hN
      walk_at "s"
    · rw [if_pos c] at hP
      have h1 := hP _ st2 rfl .refl
      clear hP hN
      walk_at "s"
  · rw [em] at l1
    have hs : ((sortBy id (TxS.met [] (nmsT t))).map D.str).length ≤ sizeLine := by rw [List.length_map, (sortBy_perm id _).length_eq, szL]; omega
    clear em
    walk_at "s"
    exact endsOf_i (q st1 u1)
theorem tell_flat : (tellW.map D.str).all flatD = true := by decide
def S_told_name : DSp := fun vs st Q => ∃ l : Ln, vs = [lnD l] ∧ LnOk l ∧ Q (.str (told l)) st
/-- told_name(line): 0 line -/
def t_told_name : MS := sRet (mIf (mTest (mBin oIn (mBin oIx (mVar 0) (mC (.int 0))) (mC (.tup [.str "sort", .str "open", .str "make", .str "do", .str "word"])))) (mBin oIx (mVar 0) (mC (.int 1))) (mC (.str "")))
theorem inW (w : Str) : inF (.str w) [.str "sort", .str "open", .str "make", .str "do", .str "word"] = decide (w ∈ tellW) := inF_strs w tellW
theorem kp_told_name : Keeps 1 1 S_told_name t_told_name := by
  refine ⟨fun ds st Q ⟨s, e, _⟩ => by rw [e]; rfl, fun ds st Q ⟨l, e, h, q⟩ => ?_⟩
  subst e
  unfold t_told_name
  have hi : ∀ (w : Str) (Q : DK), Q (.bl (decide (w ∈ tellW))) st → oIn (.str w) (.tup [.str "sort", .str "open", .str "make", .str "do", .str "word"]) st Q := fun w Q hQ => oIn_t (by rfl) tell_flat (by rw [inW]; exact hQ)
  rw [sRet_a, mIf_a]
  simp only [show startE 1 [lnD l] = [some (lnD l)] from rfl, mTest_a, mBin_a, mVar_a, vAt_a, vO_some, List.getElem?_cons_zero, mC_a]
  cases l with
  | tell w x r =>
    refine oIx_t (v := .str w) (at0 _ _) ?_
    refine hi _ _ ?_
    have hw := h.2.1
    rw [decide_eq_true hw, bAt_a, if_pos rfl]
    exact oIx_t (v := .str x) (at1 _ _ _) (endsOf_i q)
  | rule t r =>
    refine oIx_t (v := .str "rule") (at0 _ _) ?_
    refine hi _ _ ?_
    rw [show decide (("rule" : Str) ∈ tellW) = false by decide, bAt_a, if_neg (by simp)]
    exact endsOf_i q
  | other w r =>
    refine oIx_t (v := .str w) (at0 _ _) ?_
    refine hi _ _ ?_
    rw [decide_eq_false h.2.1, bAt_a, if_neg (by simp)]
    exact endsOf_i q
def S_left_names : DSp := fun vs st Q => ∃ ls : List Ln, vs = [.tup (ls.map lnD)] ∧ (∀ l ∈ ls, LnOk l) ∧ ls.length ≤ 8 ∧ ∀ p st', Nf st p → Keep st st' → st' p = some (.lst ((ls.flatMap leftN).map D.str)) → Q (.ref p) st'
/-- left_names(lines): 0 lines 1 found 2 line -/
def t_left_names : MS := sSeq (sAsg (mLst (mNil)) (gN 1))
    (sSeq (sFor (wSeq (mVar 0)) (gN 2) (sIf (mTest (mBin oEq (mBin oIx (mVar 2) (mC (.int 0))) (mC (.str "rule")))) (sDrop (mMeth isL oExtend (mVar 1) (mCons (mCall S_names_of (mCons (mBin oIx (mVar 2) (mC (.int 1))) (mNil))) (mNil)))) (sNext)))
    (sRet (mVar 1)))
theorem flat_take {f : Ln → List Str} {ls : List Ln} {i : Nat} {l : Ln} (h : ls[i]? = some l) : (ls.take (i + 1)).flatMap f = (ls.take i).flatMap f ++ f l := by
  rw [take_snoc h, List.flatMap_append, List.flatMap_cons, List.flatMap_nil, List.append_nil]
theorem kp_left_names : Keeps 1 3 S_left_names t_left_names := by
  refine ⟨fun ds st Q ⟨s, e, _⟩ => by rw [e]; rfl, fun ds st Q ⟨ls, e, h, hl, q⟩ => ?_⟩
  subst e
  have z0 : 0 ≤ sizeLine := by decide
  unfold t_left_names
  refine sSeq_t fun T hT => ?_
  walk_at "s"
  intro p hp
  have lp : put st p (.lst []) p = some (.lst ((([] : List Ln).flatMap leftN).map D.str)) := put_same
  have u0 := Keep.put (o := .lst []) hp
  generalize put st p (.lst []) = st1 at *
  subst hT
  refine sSeq_i (fun env st' => ∃ g2, env = [some (.tup (ls.map lnD)), some (.ref p), g2] ∧ Keep st st' ∧ st' p = some (.lst ((ls.flatMap leftN).map D.str))) (fun nx hnx => ?_) ?_
  · walk_at "s"
    refine ⟨fun i env st' => ∃ g2, env = [some (.tup (ls.map lnD)), some (.ref p), g2] ∧ Keep st st' ∧ st' p = some (.lst (((ls.take i).flatMap leftN).map D.str)), ⟨none, rfl, u0, lp⟩, fun _ _ _ _ _ => trivial, ?_, ?_⟩
    · rintro i z env st2 hz ⟨g2, rfl, u1, lp1⟩
      rw [List.getElem?_map, Option.map_eq_some_iff] at hz
      obtain ⟨l, hli, rfl⟩ := hz
      have hlo := h l (List.mem_of_getElem? hli)
      have e1 := flat_take (f := leftN) hli
      have e2 := lefts_len (ls := ls.take i) fun l hl => h l (List.mem_of_mem_take hl)
      have e3 := leftN_len hlo
      have e4 : (ls.take i).length ≤ 8 := by rw [List.length_take]; omega
      clear hnx q lp u0
      rw [gN_a]
      have fin : ∀ st3 (g : Option D), Keep st st3 → st3 p = some (.lst (((ls.take i).flatMap leftN ++ leftN l).map D.str)) → ∃ g2, [some (.tup (ls.map lnD)), some (.ref p), g] = [some (.tup (ls.map lnD)), some (.ref p), g2] ∧ Keep st st3 ∧ st3 p = some (.lst (((ls.take (i + 1)).flatMap leftN).map D.str)) := fun st3 g k e => ⟨g, rfl, k, by rw [e1]; exact e⟩
      clear e1
      generalize (ls.take i).flatMap leftN = F at *
      generalize ls.map lnD = LL at *
      rw [sIf_a]
      simp only [mTest_a, mBin_a, mVar_a, vAt_a, vO_some, List.getElem?_cons_zero, List.getElem?_cons_succ, List.set_cons_zero, List.set_cons_succ, mC_a]
      cases l with
      | tell w x r =>
        refine oIx_t (v := .str w) (at0 _ _) ?_
        have hw : w ≠ "rule" := fun e => absurd (e ▸ hlo.2.1) (by decide)
        rw [oEq_str, bAt_a, decide_eq_false hw, if_neg (by simp), sNext_a]
        exact fin _ _ u1 (by rw [lp1]; simp [leftN])
      | other w r =>
        refine oIx_t (v := .str w) (at0 _ _) ?_
        rw [oEq_str, bAt_a, decide_eq_false hlo.2.2, if_neg (by simp), sNext_a]
        exact fin _ _ u1 (by rw [lp1]; simp [leftN])
      | rule t r =>
        refine oIx_t (v := .str "rule") (at0 _ _) ?_
        rw [oEq_str, bAt_a, if_pos (by simp)]
        have ht := hlo.2.1
        have e3 : (sortBy id (TxS.met [] (nmsT t))).length ≤ 6 := e3
        have hsz : (F.map D.str).length + ((sortBy id (TxS.met [] (nmsT t))).map D.str).length ≤ sizeLine := by rw [List.length_map, List.length_map, szL]; omega
        rw [sDrop_a, mMeth_a]
        simp only [mVar_a, vAt_a, vO_some, List.getElem?_cons_zero, List.getElem?_cons_succ]
        refine ⟨⟨p, _, rfl, by rw [lp1]; rfl⟩, ?_⟩
        simp only [mCons_a, mNil_a, mCall_a, mBin_a, mVar_a, vAt_a, vO_some, List.getElem?_cons_zero, List.getElem?_cons_succ, mC_a]
        refine oIx_t (v := termD t) (at1 _ _ _) ⟨t, rfl, by omega, fun st3 u2 => ?_⟩
        have lp2 := u2.l lp1
        refine oExtend_t lp2 hsz (fin _ _ ((u1.trans u2).mut hp) ?_)
        rw [put_same, List.map_append]
        rfl
    · rintro env st2 ⟨g2, rfl, u1, lp1⟩
      rw [List.length_map, List.take_length] at lp1
      exact hnx _ _ ⟨g2, rfl, u1, lp1⟩
  · rintro env st2 ⟨g2, rfl, u1, lp1⟩
    walk_at "s"
    exact endsOf_i (q p st2 hp u1 lp1)
end TB
end L2.DL

namespace L2.DL
open PySem PySem.Spec PyProof.Rows
local macro_rules | `(tactic| walk_at "s") => `(tactic| try simp only [mNeNil_a, mEqNil_a, nilO_ref, mRevS_a, rvsO_str, okPy_nil, List.isEmpty_nil, List.isEmpty_cons, sqAsg_a, sqDrop_a, sqPar_a, sqPar3_a, sqRet_a, sqNext_a, sqSeq_a, sNext_a, sBreak_a, sCont_a, sDrop_a, sRet_a, sRetN_a, sIf_a, sAsg_a, sPar_a, sPar3_a, mVar_a, vAt_a, mC_a, mBin_a, mTest_a, bAt_a, mAnd_a, mOr_a, mNot_a, mYes_a, mAndV_a, mOrV_a, mNotV_a, mIf_a, mNil_a, mCons_a, mTup_a, mLst_a, mCall_a, mCallK_a, mMeth_a, mSl_a, mNoPart_a, iAt_a, mPart_a, mIsi_b, tysO_some, List.any_cons, List.any_nil, Bool.or_false, Bool.false_or, Bool.or_true, Bool.true_or, Int.natCast_pos, gN_a, gTup_a, gCons_a, gNil_a, gSub_a, sFor_a, mLc_a, mDc_a, wSeq_a, sqO_tup, sqO_str, sqO_ref, wRng1_a, wRng2_b, wRng3_b, wEnum_a, enO_tup, enO_ref, mRev_a, revO_ref, List.getD_cons_zero, List.getD_cons_succ, ite_self, List.set_cons_zero, List.set_cons_succ, List.getElem?_cons_zero, List.getElem?_cons_succ, oAdd_int, oAdd_str, oAdd_tup, oAdd_ref, oSub_int, oMul_int, oDiv_int, oMod_int, oPow_int, oLt_int, oLe_int, oGt_int, oGe_int, oIs_nn, oIs_bn, oIs_in, oIs_sn, oIs_tn, oIs_rn, oIs_bb, oIs_nb, oIs_ib, oIs_sb, oIs_tb, oIs_rb, oIsi_int, oIsi_str, oIsi_bool, oIsi_tuple, oIsi_list, oIsi_dict, tyO_some, tyD_non, tyD_bl, tyD_int, tyD_str, tyD_tup, isi_facts, oEq_int, oNe_int, oEq_str, oNe_str, oSl_tup, oSl_str, oSl_ref, oLen_tup, oLen_str, oLen_ref, oAbs_int, oInt_int, oInt_bl, oMax_int, oMin_int, oTuple_tup, oTuple_ref, oList_tup, oList_str, oList_ref, oIx_tupE, oIx_ref, oAppend_ref, oPop_ref, oExtend_tupE, oSet_ref, isL_ref, isS_str, vO_some, ixO_lst, ixO_dicI, ixO_dicS, ixO_rodI, ixO_rodS, lsO_lst, rdO_lst, rdO_rol, lenO_lst, lenO_dic, lenO_rol, addO_lst, setO_lst, setO_dicI, setO_dicS, atI_zero, atI_one, atI_two, atI_end, startE, wipeE, List.map_cons, List.map_nil, List.length_cons, List.length_nil, List.replicate, List.cons_append, List.nil_append, Nat.reduceAdd, Nat.reduceSub, List.replicate_succ, List.replicate_zero, put_same, Nat.zero_le, Int.reduceLT, Int.reduceLE, Nat.reduceLT, Nat.reduceLeDiff, and_true, true_and, Bool.false_eq_true, ↓reduceIte, Bool.not_true, Bool.not_false, decide_true, decide_false, *])
local macro_rules | `(tactic| walk_at "i") => `(tactic| try simp only [mNeNil_a, mEqNil_a, nilO_ref, mRevS_a, rvsO_str, okPy_nil, List.isEmpty_nil, List.isEmpty_cons, sqIf_a, sqAsg_a, sqDrop_a, sqPar_a, sqPar3_a, sqRet_a, sqNext_a, sqSeq_a, sNext_a, sBreak_a, sCont_a, sDrop_a, sRet_a, sRetN_a, sIf_a, sAsg_a, sPar_a, sPar3_a, mVar_a, vAt_a, mC_a, mBin_a, mTest_a, bAt_a, mAnd_a, mOr_a, mNot_a, mYes_a, mAndV_a, mOrV_a, mNotV_a, mIf_a, mNil_a, mCons_a, mTup_a, mLst_a, mCall_a, mCallK_a, mMeth_a, mSl_a, mNoPart_a, iAt_a, mPart_a, mIsi_b, tysO_some, List.any_cons, List.any_nil, Bool.or_false, Bool.false_or, Bool.or_true, Bool.true_or, Int.natCast_pos, gN_a, gTup_a, gCons_a, gNil_a, gSub_a, sFor_a, mLc_a, mDc_a, wSeq_a, sqO_tup, sqO_str, sqO_ref, wRng1_a, wRng2_b, wRng3_b, wEnum_a, enO_tup, enO_ref, mRev_a, revO_ref, List.getD_cons_zero, List.getD_cons_succ, ite_self, List.set_cons_zero, List.set_cons_succ, List.getElem?_cons_zero, List.getElem?_cons_succ, oAdd_int, oAdd_str, oAdd_tup, oAdd_ref, oSub_int, oMul_int, oDiv_int, oMod_int, oPow_int, oLt_int, oLe_int, oGt_int, oGe_int, oIs_nn, oIs_bn, oIs_in, oIs_sn, oIs_tn, oIs_rn, oIs_bb, oIs_nb, oIs_ib, oIs_sb, oIs_tb, oIs_rb, oIsi_int, oIsi_str, oIsi_bool, oIsi_tuple, oIsi_list, oIsi_dict, tyO_some, tyD_non, tyD_bl, tyD_int, tyD_str, tyD_tup, isi_facts, oEq_int, oNe_int, oEq_str, oNe_str, oSl_tup, oSl_str, oSl_ref, oLen_tup, oLen_str, oLen_ref, oAbs_int, oInt_int, oInt_bl, oMax_int, oMin_int, oTuple_tup, oTuple_ref, oList_tup, oList_str, oList_ref, oIx_tupE, oIx_ref, oAppend_ref, oPop_ref, oExtend_tupE, oSet_ref, isL_ref, isS_str, vO_some, ixO_lst, ixO_dicI, ixO_dicS, ixO_rodI, ixO_rodS, lsO_lst, rdO_lst, rdO_rol, lenO_lst, lenO_dic, lenO_rol, addO_lst, setO_lst, setO_dicI, setO_dicS, atI_zero, atI_one, atI_two, atI_end, startE, wipeE, List.map_cons, List.map_nil, List.length_cons, List.length_nil, List.replicate, List.cons_append, List.nil_append, Nat.reduceAdd, Nat.reduceSub, List.replicate_succ, List.replicate_zero, put_same, Nat.zero_le, Int.reduceLT, Int.reduceLE, Nat.reduceLT, Nat.reduceLeDiff, and_true, true_and, Bool.false_eq_true, ↓reduceIte, Bool.not_true, Bool.not_false, decide_true, decide_false, *])
namespace TB
def S_touched_by : DSp := fun vs st Q => ∃ ls : List Ln, vs = [.tup (ls.map lnD)] ∧ (∀ l ∈ ls, LnOk l) ∧ ls.length ≤ 8 ∧ ∀ st', Keep st st' → Q (.tup ((sortBy id (TxS.met [] (touchP ls))).map D.str)) st'
/-- touched_by(lines): 0 lines 1 found 2 line -/
def t_touched_by : MS := sSeq (sAsg (mCall S_left_names (mCons (mVar 0) (mNil))) (gN 1))
    (sSeq (sDrop (mMeth isL oExtend (mVar 1) (mCons (mLc (wSeq (mVar 0)) (gN 2) (mTest (mBin oNe (mCall S_told_name (mCons (mVar 2) (mNil))) (mC (.str "")))) (mBin oIx (mVar 2) (mC (.int 1))) [2]) (mNil))))
    (sSeq (sIf (mTest (mNeNil (mLc (wSeq (mVar 0)) (gN 2) (mTest (mBin oEq (mBin oIx (mVar 2) (mC (.int 0))) (mC (.str "all")))) (mVar 2) [2]))) (sDrop (mMeth isL oAppend (mVar 1) (mCons (mC (.str "all")) (mNil)))) (sNext))
    (sRet (mCall oTuple (mCons (mSortSet (mVar 1)) (mNil))))))
/-- by the lines -/
theorem fm_lines {g : D → Option D} {f : Ln → Option D} : ∀ {ls : List Ln}, (∀ l ∈ ls, g (lnD l) = f l) → (ls.map lnD).filterMap g = ls.filterMap f
  | [], _ => rfl
  | l :: ls, h => by
    have ih := fm_lines fun y hy => h y (List.mem_cons_of_mem l hy)
    have hl := h l (List.mem_cons_self ..)
    rw [List.map_cons]
    cases e : f l with
    | none => rw [List.filterMap_cons_none (by rw [hl, e]), List.filterMap_cons_none e, ih]
    | some d => rw [List.filterMap_cons_some (by rw [hl, e]), List.filterMap_cons_some e, ih]
def onTold : D → Option D
  | .tup (.str w :: .str x :: _) => if w ∈ tellW then (if x = "" then none else some (.str x)) else none
  | _ => none
theorem onTold_ln {l : Ln} (h : LnOk l) : onTold (lnD l) = if told l ≠ "" then some (.str (told l)) else none := by
  cases l with
  | tell w x r =>
    show (if w ∈ tellW then (if x = "" then none else some (D.str x)) else none) = if x ≠ "" then some (.str x) else none
    rw [if_pos h.2.1]
    by_cases c : x = ""
    · rw [if_pos c, if_neg (by simp [c])]
    · rw [if_neg c, if_pos c]
  | rule t r => rfl
  | other w r =>
    have e : (if told (.other w r) ≠ "" then some (D.str (told (.other w r))) else none) = none := rfl
    rw [e]
    cases r with
    | nil => rfl
    | cons d r => cases d <;> first | rfl | (show (if w ∈ tellW then _ else none) = none; rw [if_neg h.2.1])
theorem onTold_map {ls : List Ln} (h : ∀ l ∈ ls, LnOk l) : (ls.map lnD).filterMap onTold = ((ls.filter fun l => decide (told l ≠ "")).map told).map D.str := by
  rw [fm_lines (f := fun l => if told l ≠ "" then some (.str (told l)) else none) fun l hl => onTold_ln (h l hl)]
  clear h
  induction ls with
  | nil => rfl
  | cons l ls ih =>
    by_cases c : told l = ""
    · rw [List.filterMap_cons_none (by rw [if_neg (by simp [c])]), List.filter_cons_of_neg (by simp [c]), ih]
    · rw [List.filterMap_cons_some (by rw [if_pos c]), List.filter_cons_of_pos (by simpa using c), ih]
      rfl
def onAll : D → Option D
  | .tup (.str w :: r) => if w = "all" then some (.tup (.str w :: r)) else none
  | _ => none
theorem onAll_ln {l : Ln} (h : LnOk l) : onAll (lnD l) = if isAll l = true then some (lnD l) else none := by
  cases l with
  | tell w x r =>
    have hw : w ≠ "all" := fun e => absurd (e ▸ h.2.1) (by decide)
    show (if w = "all" then _ else none) = _
    rw [if_neg hw]
    rfl
  | rule t r => rfl
  | other w r =>
    show (if w = "all" then _ else none) = if decide (w = "all") = true then _ else _
    by_cases c : w = "all"
    · rw [if_pos c, if_pos (by simpa using c)]; rfl
    · rw [if_neg c, if_neg (by simpa using c)]
theorem onAll_map {ls : List Ln} (h : ∀ l ∈ ls, LnOk l) : (ls.map lnD).filterMap onAll = (ls.filter isAll).map lnD := by
  rw [fm_lines (f := fun l => if isAll l = true then some (lnD l) else none) fun l hl => onAll_ln (h l hl)]
  clear h
  induction ls with
  | nil => rfl
  | cons l ls ih =>
    by_cases c : isAll l = true
    · rw [List.filterMap_cons_some (by rw [if_pos c]), List.filter_cons_of_pos c, ih]; rfl
    · rw [List.filterMap_cons_none (by rw [if_neg c]), List.filter_cons_of_neg c, ih]
/-- a line's word -/
def wordL : Ln → Str
  | .tell w _ _ => w
  | .rule _ _ => "rule"
  | .other w _ => w
def restL : Ln → List D
  | .tell _ x r => .str x :: r
  | .rule t r => termD t :: r
  | .other _ r => r
theorem lnD_eq (l : Ln) : lnD l = .tup (.str (wordL l) :: restL l) := by cases l <;> rfl
theorem isAll_word {l : Ln} (h : LnOk l) : isAll l = decide (wordL l = "all") := by
  cases l with
  | tell w x r =>
    have hw : w ≠ "all" := fun e => absurd (e ▸ h.2.1) (by decide)
    show false = decide (w = "all")
    rw [decide_eq_false hw]
  | rule t r => rfl
  | other w r => rfl
theorem told_rest {l : Ln} (h : told l ≠ "") : restL l = .str (told l) :: (restL l).tail := by
  cases l with
  | tell w x r => rfl
  | rule t r => exact absurd rfl h
  | other w r => exact absurd rfl h
theorem okPy_lines {ls : List Ln} (h : ∀ l ∈ ls, LnOk l) : okPy (ls.map lnD) := okPy_pd (k := 40) (fun x hx => by
  obtain ⟨l, hl, rfl⟩ := List.mem_map.mp hx
  exact (h l hl).1) (by omega)
theorem kp_touched_by : Keeps 1 3 S_touched_by t_touched_by := by
  refine ⟨fun ds st Q ⟨s, e, _⟩ => by rw [e]; rfl, fun ds st Q ⟨ls, e, h, hl, q⟩ => ?_⟩
  subst e
  have hp1 := touchP_len h
  have hm := met_lt (touchP ls) (by omega)
  have hl2 := lefts_len h
  have eT : touchP ls = ls.flatMap leftN ++ (ls.filter fun l => decide (told l ≠ "")).map told ++ if (ls.filter isAll).isEmpty = true then ([] : List Str) else (["all"] : List Str) := rfl
  have oT := onTold_map h
  have oA := onAll_map h
  have lT := List.length_filter_le (fun l => decide (told l ≠ "")) ls
  have hAllOk : okPy ((ls.filter isAll).map lnD) := okPy_lines fun l hl => h l (List.mem_filter.mp hl).1
  have q2 := Hdn.mk q
  clear q
  unfold t_touched_by
  refine sSeq_t fun T hT => ?_
  walk_at "s"
  refine ⟨ls, rfl, h, hl, fun p st1 hp u1 lp => ?_⟩
  subst hT
  refine sSeq_t fun T hT => ?_
  have hsz : ((ls.flatMap leftN).map D.str).length + (((ls.filter fun l => decide (told l ≠ "")).map told).map D.str).length ≤ sizeLine := by rw [List.length_map, List.length_map, List.length_map, szL]; omega
  rw [sSeq_a, sDrop_a, mMeth_a]
  simp only [mVar_a, vAt_a, vO_some, List.getElem?_cons_zero, List.getElem?_cons_succ]
  refine ⟨⟨p, _, rfl, by rw [lp]; rfl⟩, ?_⟩
  rw [mCons_a]
  walk_at "s"
  refine lc_keep onTold (fun _ _ => trivial) (by rw [List.length_map, szL]; omega) (fun y hy st2 u2 P N hP hN => ?_) fun p2 st2 hp2 u2 l2 => ?_
  · obtain ⟨l, hll, rfl⟩ := List.mem_map.mp hy
    have hlo := h l hll
    rw [onTold_ln hlo] at hP hN
    clear oT oA lT lp hsz hAllOk eT hm hp1 hl2
    rw [gN_a, mTest_a, mBin_a]
    simp only [mCall_a, mCons_a, mNil_a, wipeE, List.foldl_cons, List.foldl_nil, mVar_a, vAt_a, vO_some, List.getElem?_cons_zero, List.getElem?_cons_succ, List.set_cons_zero, List.set_cons_succ, mC_a]
    refine ⟨l, rfl, hlo, ?_⟩
    dsimp only
    rw [oNe_str, bAt_a]
    by_cases c : told l = ""
    · rw [if_neg (by simp [c])] at hN
      rw [if_neg (by simp [c])]
      exact hN _ rfl .refl
    · rw [if_pos c] at hP
      rw [if_pos (by simp [c])]
      rw [mBin_a]
      simp only [mVar_a, vAt_a, vO_some, List.getElem?_cons_zero, List.getElem?_cons_succ, List.set_cons_zero, List.set_cons_succ, mC_a]
      rw [lnD_eq, told_rest c]
      exact oIx_t (at1 _ _ _) (hP _ _ rfl .refl)
  rw [oT] at l2
  have lp2 := u2.l lp
  have v2 := u1.trans u2
  have pp2 : p2 ≠ p := hp2.ne lp
  clear u1 u2 oT lp
  refine oExtend_l lp2 l2 hsz ?_
  have v3 := v2.mut (o := .lst ((ls.flatMap leftN).map D.str ++ ((ls.filter fun l => decide (told l ≠ "")).map told).map D.str)) hp
  have lp3 : put st2 p (.lst ((ls.flatMap leftN).map D.str ++ ((ls.filter fun l => decide (told l ≠ "")).map told).map D.str)) p = some (.lst ((ls.flatMap leftN ++ (ls.filter fun l => decide (told l ≠ "")).map told).map D.str)) := by rw [put_same, List.map_append]
  generalize put st2 p (.lst ((ls.flatMap leftN).map D.str ++ ((ls.filter fun l => decide (told l ≠ "")).map told).map D.str)) = st3 at *
  clear hsz lp2 l2 v2 hp2
  have hpl : (ls.flatMap leftN ++ (ls.filter fun l => decide (told l ≠ "")).map told).length < 100 := by rw [List.length_append, List.length_map]; omega
  generalize ls.flatMap leftN ++ (ls.filter fun l => decide (told l ≠ "")).map told = F at *
  clear hl2 lT
  subst hT
  refine sSeq_i (fun env st' => ∃ g2, env = [some (.tup (ls.map lnD)), some (.ref p), g2] ∧ Keep st st' ∧ st' p = some (.lst ((touchP ls).map D.str))) (fun nx hnx => ?_) ?_
  · walk_at "s"
    refine lc_keep onAll (fun _ _ => trivial) (by rw [List.length_map, szL]; omega) (fun y hy st4 u2 P N hP hN => ?_) fun p2 st4 hp2 u2 l2 => ?_
    · obtain ⟨l, hll, rfl⟩ := List.mem_map.mp hy
      have hlo := h l hll
      rw [onAll_ln hlo, isAll_word hlo] at hP hN
      clear oA lp3 hAllOk hm hp1 hnx
      rw [gN_a]
      simp only [mTest_a, mBin_a, wipeE, List.foldl_cons, List.foldl_nil, mVar_a, vAt_a, vO_some, List.getElem?_cons_zero, List.getElem?_cons_succ, List.set_cons_zero, List.set_cons_succ, mC_a]
      rw [lnD_eq] at hP ⊢
      refine oIx_t (at0 _ _) ?_
      rw [oEq_str, bAt_a]
      by_cases c : wordL l = "all"
      · rw [if_pos (by simpa using c)] at hP
        rw [if_pos (by simpa using c)]
        exact hP _ _ rfl .refl
      · rw [if_neg (by simpa using c)] at hN
        rw [if_neg (by simpa using c)]
        exact hN _ rfl .refl
    rw [oA] at l2
    have lp4 := u2.l lp3
    have v4 := v3.trans u2
    have hsz : (F.map D.str).length < sizeLine := by rw [List.length_map, szL]; omega
    clear u2 lp3 v3 oA
    have e2 : ((ls.filter isAll).map lnD).isEmpty = (ls.filter isAll).isEmpty := by cases ls.filter isAll <;> rfl
    rw [nilO_ref, l2, rdO_lst, e2]
    refine ⟨hAllOk, ?_⟩
    rw [eT] at hnx
    clear eT l2 hAllOk e2 hm hp1
    generalize (ls.filter isAll).isEmpty = be at *
    cases be with
    | true =>
      rw [if_pos rfl, List.append_nil] at hnx
      rw [if_neg (by simp)]
      exact hnx _ _ ⟨_, rfl, v4, lp4⟩
    | false =>
      rw [if_neg (by simp)] at hnx
      rw [if_pos (by simp), lp4, rdO_lst, lsO_lst]
      refine ⟨trivial, hsz, hnx _ _ ⟨_, rfl, v4.mut hp, ?_⟩⟩
      rw [put_same, List.map_append]
      rfl
  · rintro env st5 ⟨g2, rfl, v5, lp5⟩
    have hs : ((sortBy id (TxS.met [] (touchP ls))).map D.str).length ≤ sizeLine := by rw [List.length_map, (sortBy_perm id _).length_eq, szL]; omega
    rw [sRet_a, mCall_a, mCons_a, mSortSet_a]
    simp only [mVar_a, vAt_a, vO_some, List.getElem?_cons_zero, List.getElem?_cons_succ]
    rw [lp5]
    refine ⟨touchP ls, rfl, by omega, by omega, fun p6 hp6 => ?_⟩
    dsimp only
    rw [mNil_a]
    refine oTuple_l (xs := (sortBy id (TxS.met [] (touchP ls))).map D.str) (by rw [put_same]; rfl) ?_
    exact endsOf_i (q2.out _ (v5.new hp6))
end TB
end L2.DL

namespace L2.DL
open PySem PySem.Spec PyProof.Rows
local macro_rules | `(tactic| walk_at "s") => `(tactic| try simp only [mNeNil_a, mEqNil_a, nilO_ref, mRevS_a, rvsO_str, okPy_nil, List.isEmpty_nil, List.isEmpty_cons, sqAsg_a, sqDrop_a, sqPar_a, sqPar3_a, sqRet_a, sqNext_a, sqSeq_a, sNext_a, sBreak_a, sCont_a, sDrop_a, sRet_a, sRetN_a, sIf_a, sAsg_a, sPar_a, sPar3_a, mVar_a, vAt_a, mC_a, mBin_a, mTest_a, bAt_a, mAnd_a, mOr_a, mNot_a, mYes_a, mAndV_a, mOrV_a, mNotV_a, mIf_a, mNil_a, mCons_a, mTup_a, mLst_a, mCall_a, mCallK_a, mMeth_a, mSl_a, mNoPart_a, iAt_a, mPart_a, mIsi_b, tysO_some, List.any_cons, List.any_nil, Bool.or_false, Bool.false_or, Bool.or_true, Bool.true_or, Int.natCast_pos, gN_a, gTup_a, gCons_a, gNil_a, gSub_a, sFor_a, mLc_a, mDc_a, wSeq_a, sqO_tup, sqO_str, sqO_ref, wRng1_a, wRng2_b, wRng3_b, wEnum_a, enO_tup, enO_ref, mRev_a, revO_ref, List.getD_cons_zero, List.getD_cons_succ, ite_self, List.set_cons_zero, List.set_cons_succ, List.getElem?_cons_zero, List.getElem?_cons_succ, oAdd_int, oAdd_str, oAdd_tup, oAdd_ref, oSub_int, oMul_int, oDiv_int, oMod_int, oPow_int, oLt_int, oLe_int, oGt_int, oGe_int, oIs_nn, oIs_bn, oIs_in, oIs_sn, oIs_tn, oIs_rn, oIs_bb, oIs_nb, oIs_ib, oIs_sb, oIs_tb, oIs_rb, oIsi_int, oIsi_str, oIsi_bool, oIsi_tuple, oIsi_list, oIsi_dict, tyO_some, tyD_non, tyD_bl, tyD_int, tyD_str, tyD_tup, isi_facts, oEq_int, oNe_int, oEq_str, oNe_str, oSl_tup, oSl_str, oSl_ref, oLen_tup, oLen_str, oLen_ref, oAbs_int, oInt_int, oInt_bl, oMax_int, oMin_int, oTuple_tup, oTuple_ref, oList_tup, oList_str, oList_ref, oIx_tupE, oIx_ref, oAppend_ref, oPop_ref, oExtend_tupE, oSet_ref, isL_ref, isS_str, vO_some, ixO_lst, ixO_dicI, ixO_dicS, ixO_rodI, ixO_rodS, lsO_lst, rdO_lst, rdO_rol, lenO_lst, lenO_dic, lenO_rol, addO_lst, setO_lst, setO_dicI, setO_dicS, atI_zero, atI_one, atI_two, atI_end, startE, wipeE, List.map_cons, List.map_nil, List.length_cons, List.length_nil, List.replicate, List.cons_append, List.nil_append, Nat.reduceAdd, Nat.reduceSub, List.replicate_succ, List.replicate_zero, put_same, Nat.zero_le, Int.reduceLT, Int.reduceLE, Nat.reduceLT, Nat.reduceLeDiff, and_true, true_and, Bool.false_eq_true, ↓reduceIte, Bool.not_true, Bool.not_false, decide_true, decide_false, *])
local macro_rules | `(tactic| walk_at "i") => `(tactic| try simp only [mNeNil_a, mEqNil_a, nilO_ref, mRevS_a, rvsO_str, okPy_nil, List.isEmpty_nil, List.isEmpty_cons, sqIf_a, sqAsg_a, sqDrop_a, sqPar_a, sqPar3_a, sqRet_a, sqNext_a, sqSeq_a, sNext_a, sBreak_a, sCont_a, sDrop_a, sRet_a, sRetN_a, sIf_a, sAsg_a, sPar_a, sPar3_a, mVar_a, vAt_a, mC_a, mBin_a, mTest_a, bAt_a, mAnd_a, mOr_a, mNot_a, mYes_a, mAndV_a, mOrV_a, mNotV_a, mIf_a, mNil_a, mCons_a, mTup_a, mLst_a, mCall_a, mCallK_a, mMeth_a, mSl_a, mNoPart_a, iAt_a, mPart_a, mIsi_b, tysO_some, List.any_cons, List.any_nil, Bool.or_false, Bool.false_or, Bool.or_true, Bool.true_or, Int.natCast_pos, gN_a, gTup_a, gCons_a, gNil_a, gSub_a, sFor_a, mLc_a, mDc_a, wSeq_a, sqO_tup, sqO_str, sqO_ref, wRng1_a, wRng2_b, wRng3_b, wEnum_a, enO_tup, enO_ref, mRev_a, revO_ref, List.getD_cons_zero, List.getD_cons_succ, ite_self, List.set_cons_zero, List.set_cons_succ, List.getElem?_cons_zero, List.getElem?_cons_succ, oAdd_int, oAdd_str, oAdd_tup, oAdd_ref, oSub_int, oMul_int, oDiv_int, oMod_int, oPow_int, oLt_int, oLe_int, oGt_int, oGe_int, oIs_nn, oIs_bn, oIs_in, oIs_sn, oIs_tn, oIs_rn, oIs_bb, oIs_nb, oIs_ib, oIs_sb, oIs_tb, oIs_rb, oIsi_int, oIsi_str, oIsi_bool, oIsi_tuple, oIsi_list, oIsi_dict, tyO_some, tyD_non, tyD_bl, tyD_int, tyD_str, tyD_tup, isi_facts, oEq_int, oNe_int, oEq_str, oNe_str, oSl_tup, oSl_str, oSl_ref, oLen_tup, oLen_str, oLen_ref, oAbs_int, oInt_int, oInt_bl, oMax_int, oMin_int, oTuple_tup, oTuple_ref, oList_tup, oList_str, oList_ref, oIx_tupE, oIx_ref, oAppend_ref, oPop_ref, oExtend_tupE, oSet_ref, isL_ref, isS_str, vO_some, ixO_lst, ixO_dicI, ixO_dicS, ixO_rodI, ixO_rodS, lsO_lst, rdO_lst, rdO_rol, lenO_lst, lenO_dic, lenO_rol, addO_lst, setO_lst, setO_dicI, setO_dicS, atI_zero, atI_one, atI_two, atI_end, startE, wipeE, List.map_cons, List.map_nil, List.length_cons, List.length_nil, List.replicate, List.cons_append, List.nil_append, Nat.reduceAdd, Nat.reduceSub, List.replicate_succ, List.replicate_zero, put_same, Nat.zero_le, Int.reduceLT, Int.reduceLE, Nat.reduceLT, Nat.reduceLeDiff, and_true, true_and, Bool.false_eq_true, ↓reduceIte, Bool.not_true, Bool.not_false, decide_true, decide_false, *])
namespace TB
def S_law_own_name : DSp := fun vs st Q => ∃ l : Ln, vs = [lnD l] ∧ LnOk l ∧ ∀ st', Keep st st' → Q (.str (told l)) st'
/-- _law_own_name(line): 0 line -/
def t_law_own_name : MS := sRet (mIf (mTest (mBin oIn (mBin oIx (mVar 0) (mC (.int 0))) (mLst (mCons (mC (.str "sort")) (mCons (mC (.str "open")) (mCons (mC (.str "make")) (mCons (mC (.str "do")) (mCons (mC (.str "word")) (mNil))))))))) (mBin oIx (mVar 0) (mC (.int 1))) (mC (.str "")))
theorem kp_law_own_name : Keeps 1 1 S_law_own_name t_law_own_name := by
  refine ⟨fun ds st Q ⟨s, e, _⟩ => by rw [e]; rfl, fun ds st Q ⟨l, e, h, q⟩ => ?_⟩
  subst e
  unfold t_law_own_name
  have z5 : 0 + 1 + 1 + 1 + 1 + 1 ≤ sizeLine := by decide
  rw [sRet_a, mIf_a, mTest_a, mBin_a, mBin_a]
  simp only [show startE 1 [lnD l] = [some (lnD l)] from rfl, mVar_a, vAt_a, vO_some, List.getElem?_cons_zero, mC_a, mLst_a, mCons_a, mNil_a, List.length_cons, List.length_nil]
  have hw : lnD l = .tup (.str (wordL l) :: restL l) := lnD_eq l
  rw [hw]
  refine oIx_t (at0 _ _) ⟨z5, fun p hp => ?_⟩
  have v := Keep.put (o := .lst (tellW.map D.str)) hp
  refine oIn_l (xs := tellW.map D.str) (by rw [put_same]; rfl) (by rfl) tell_flat ?_
  rw [inF_strs, bAt_a]
  cases l with
  | tell w x r =>
    have hw := h.2.1
    rw [if_pos (decide_eq_true (show wordL (.tell w x r) ∈ tellW from hw))]
    rw [mBin_a]
    simp only [mVar_a, vAt_a, vO_some, List.getElem?_cons_zero, mC_a]
    exact oIx_t (at1 _ _ _) (endsOf_i (q _ v))
  | rule t r =>
    rw [if_neg (by rw [decide_eq_false (show wordL (.rule t r) ∉ tellW from (by decide : ("rule" : Str) ∉ tellW))]; simp)]
    exact endsOf_i (q _ v)
  | other w r =>
    rw [if_neg (by rw [decide_eq_false (show wordL (.other w r) ∉ tellW from h.2.1)]; simp)]
    exact endsOf_i (q _ v)
def S_law_signs_named : DSp := fun vs st Q => ∃ t : Term, vs = [termD t] ∧ t.length ≤ 50 ∧ (∀ s ∈ t, -1 ≤ s.2) ∧ ∀ p st', Nf st p → Keep st st' → st' p = some (.lst ((nmsT t).map D.str)) → Q (.ref p) st'
/-- _law_signs_named(term): 0 term 1 name 2 many -/
def t_law_signs_named : MS := sRet (mLc (wSeq (mVar 0)) (gTup 2 (gCons (gN 1) (gCons (gN 2) (gNil)))) (mTest (mBin oGe (mVar 2) (mC (.int 0)))) (mVar 1) [1, 2])
def onNm2 : D → Option D
  | .tup [.str x, .int i] => if i ≠ -1 then some (.str x) else none
  | _ => none
theorem onNm2_map : ∀ t : Term, (t.map signD).filterMap onNm2 = (nmsT t).map D.str
  | [] => rfl
  | s :: t => by
    have ih := onNm2_map t
    have e0 : onNm2 (signD s) = if s.2 ≠ -1 then some (.str s.1) else none := rfl
    by_cases c : s.2 ≠ -1
    · have e : nmsT (s :: t) = s.1 :: nmsT t := by unfold nmsT; rw [List.filter_cons_of_pos (by simpa using c), List.map_cons]
      rw [List.map_cons, List.filterMap_cons_some (b := .str s.1) (by rw [e0, if_pos c]), ih, e]
      rfl
    · have e : nmsT (s :: t) = nmsT t := by unfold nmsT; rw [List.filter_cons_of_neg (by simpa using c)]
      rw [List.map_cons, List.filterMap_cons_none (by rw [e0, if_neg c]), ih, e]
theorem kp_law_signs_named : Keeps 1 3 S_law_signs_named t_law_signs_named := by
  refine ⟨fun ds st Q ⟨s, e, _⟩ => by rw [e]; rfl, fun ds st Q ⟨t, e, hl, hpos, q⟩ => ?_⟩
  subst e
  unfold t_law_signs_named
  unfold termD
  have em := onNm2_map t
  have q2 := Hdn.mk q
  clear q
  walk_at "s"
  refine lc_keep onNm2 (fun _ _ => trivial) (by rw [List.length_map, szL]; omega) (fun y hy st2 u2 P N hP hN => ?_) fun p st1 hp u1 l1 => ?_
  · obtain ⟨s, hs, rfl⟩ := List.mem_map.mp hy
    have h1 := hpos s hs
    have e0 : onNm2 (signD s) = if s.2 ≠ -1 then some (.str s.1) else none := rfl
    rw [e0] at hP hN
    unfold signD
    clear em e0 hy
    by_cases c : s.2 = -1
    · rw [if_neg (by simp [c])] at hN
      have h1 := hN st2 rfl .refl
      have c2 : ¬ (0 : Int) ≤ s.2 := by omega
      clear hP hN
      walk_at "s"
    · rw [if_pos c] at hP
      have h1 := hP _ st2 rfl .refl
      have c2 : (0 : Int) ≤ s.2 := by omega
      clear hP hN
      walk_at "s"
  · rw [em] at l1
    exact endsOf_i (q2.out p st1 hp u1 l1)
def S_law_lot_of : DSp := fun vs st Q => ∃ (a : Addr) (L : List Str), vs = [.ref a] ∧ st a = some (.lst (L.map D.str)) ∧ L.length < 64 ∧ (∀ x ∈ L, nmOk x) ∧ ∀ st', Keep st st' → Q (.tup ((lotS L).map D.str)) st'
/-- _law_lot_of(names): 0 names 1 found 2 name -/
def t_law_lot_of : MS := sSeq (sAsg (mLst (mNil)) (gN 1))
    (sSeq (sFor (wSeq (mCall oSorted (mCons (mVar 0) (mNil)))) (gN 2) (sIf (mOr (mTest (mEqNil (mVar 1))) (mTest (mBin oNe (mBin oIx (mVar 1) (mC (.int (-1)))) (mVar 2)))) (sDrop (mMeth isL oAppend (mVar 1) (mCons (mVar 2) (mNil)))) (sNext)))
    (sRet (mCall oTuple (mCons (mVar 1) (mNil)))))
theorem ddS_snoc : ∀ (xs acc : List Str) (x : Str), ddS acc (xs ++ [x]) = if (ddS acc xs).getLast? = some x then ddS acc xs else ddS acc xs ++ [x]
  | [], acc, x => rfl
  | y :: xs, acc, x => by
    rw [List.cons_append, ddS, ddS_snoc xs]
    rfl
theorem ddS_mem : ∀ (xs acc : List Str) (y : Str), y ∈ ddS acc xs ↔ y ∈ acc ∨ y ∈ xs
  | [], acc, y => by simp [ddS]
  | x :: xs, acc, y => by
    rw [ddS, ddS_mem xs, List.mem_cons]
    by_cases c : acc.getLast? = some x
    · rw [if_pos c]
      have := List.mem_of_getLast? c
      constructor
      · rintro (h | h)
        · exact .inl h
        · exact .inr (.inr h)
      · rintro (h | rfl | h)
        · exact .inl h
        · exact .inl this
        · exact .inr h
    · rw [if_neg c, List.mem_append, List.mem_singleton, or_assoc]
theorem ddS_len : ∀ (xs acc : List Str), (ddS acc xs).length ≤ acc.length + xs.length
  | [], acc => Nat.le_refl _
  | x :: xs, acc => by
    rw [ddS]
    have h := ddS_len xs (if acc.getLast? = some x then acc else acc ++ [x])
    have h2 : (if acc.getLast? = some x then acc else acc ++ [x]).length ≤ acc.length + 1 := by
      split
      · omega
      · rw [List.length_append]; exact Nat.le_refl _
    rw [List.length_cons]
    omega
theorem kp_law_lot_of : Keeps 1 3 S_law_lot_of t_law_lot_of := by
  refine ⟨fun ds st Q ⟨s, L, e, _⟩ => by rw [e]; rfl, fun ds st Q ⟨a, L, e, la, hl, hnm, q⟩ => ?_⟩
  subst e
  have hnm2 := Hdn.mk fun x (hx : x ∈ sortBy id L) => hnm x ((sortBy_perm id L).mem_iff.mp hx)
  clear hnm
  have z0 : 0 ≤ sizeLine := by decide
  have q2 := Hdn.mk q
  clear q
  unfold t_law_lot_of
  refine sSeq_t fun T hT => ?_
  walk_at "s"
  intro p hp
  have lp : put st p (.lst []) p = some (.lst ((ddS [] ((sortBy id L).take 0)).map D.str)) := put_same
  have la2 := (Keep.put (o := .lst []) hp).l la
  have u0 := Keep.put (o := .lst []) hp
  generalize put st p (.lst []) = st1 at *
  clear la
  subst hT
  have hSl : (sortBy id L).length = L.length := (sortBy_perm id L).length_eq
  refine sSeq_i (fun env st' => ∃ g2, env = [some (.ref a), some (.ref p), g2] ∧ Keep st st' ∧ st' p = some (.lst ((lotS L).map D.str))) (fun nx hnx => ?_) ?_
  · walk_at "s"
    refine .inr (.inl ⟨L, by rw [la2]; rfl, hl, fun r hr => ?_⟩)
    have lr : put st1 r (.lst ((sortBy id L).map D.str)) r = some (.lst ((sortBy id L).map D.str)) := put_same
    have lp2 := (Keep.put (o := .lst ((sortBy id L).map D.str)) hr).l lp
    have u2 := u0.new (o := .lst ((sortBy id L).map D.str)) hr
    have rp : r ≠ p := hr.ne lp
    generalize put st1 r (.lst ((sortBy id L).map D.str)) = st2 at *
    unfold lotS at hnx
    generalize sortBy id L = S at *
    clear la2 lp u0 hr
    walk_at "s"
    refine ⟨fun i env st' => ∃ g2, env = [some (.ref a), some (.ref p), g2] ∧ Keep st st' ∧ st' r = some (.lst (S.map D.str)) ∧ st' p = some (.lst ((ddS [] (S.take i)).map D.str)), ⟨none, rfl, u2, lr, lp2⟩, fun i env st' _ ⟨_, _, _, hr, _⟩ => by show rdL (st' r) = _; rw [hr]; rfl, ?_, ?_⟩
    · rintro i z env st3 hz ⟨g2, rfl, u3, lr3, lp3⟩
      rw [List.getElem?_map, Option.map_eq_some_iff] at hz
      obtain ⟨x, hx, rfl⟩ := hz
      have e1 : ddS [] (S.take (i + 1)) = if (ddS [] (S.take i)).getLast? = some x then ddS [] (S.take i) else ddS [] (S.take i) ++ [x] := by rw [take_snoc hx, ddS_snoc]
      have e2 := ddS_len (S.take i) []
      have e3 : (S.take i).length ≤ S.length := by rw [List.length_take]; omega
      simp only [List.length_nil] at e2
      have e4 : ∀ y ∈ ddS [] (S.take i), nmOk y := fun y hy => by
        have := (ddS_mem (S.take i) [] y).mp hy
        rcases this with h | h
        · cases h
        · exact hnm2.out y (List.mem_of_mem_take h)
      clear hnx lr lp2 u2
      rw [gN_a]
      have fin : ∀ st4 (g : Option D), Keep st st4 → st4 r = some (.lst (S.map D.str)) → st4 p = some (.lst ((if (ddS [] (S.take i)).getLast? = some x then ddS [] (S.take i) else ddS [] (S.take i) ++ [x]).map D.str)) → ∃ g2, [some (.ref a), some (.ref p), g] = [some (.ref a), some (.ref p), g2] ∧ Keep st st4 ∧ st4 r = some (.lst (S.map D.str)) ∧ st4 p = some (.lst ((ddS [] (S.take (i + 1))).map D.str)) := fun st4 g k h1 h2 => ⟨g, rfl, k, h1, by rw [e1]; exact h2⟩
      clear e1
      generalize ddS [] (S.take i) = F at *
      have hsz : (F.map D.str).length < sizeLine := by rw [List.length_map, szL]; omega
      have hok : okPy (F.map D.str) := okPy_pd (k := 0) (fun z hz => by
        obtain ⟨y, hy, rfl⟩ := List.mem_map.mp hz
        exact .nm (e4 y hy)) (by omega)
      rw [sIf_a, mOr_a, mTest_a, mEqNil_a]
      simp only [mVar_a, vAt_a, vO_some, List.getElem?_cons_zero, List.getElem?_cons_succ, List.set_cons_zero, List.set_cons_succ]
      rw [nilO_ref, lp3, rdO_lst]
      refine ⟨hok, ?_⟩
      rw [bAt_a]
      have app : ∀ (b : Bool), F.getLast? ≠ some x → sDrop (mMeth isL oAppend (mVar 1) (mCons (mVar 2) mNil)) { nx := fun env st' => ∃ g2, env = [some (.ref a), some (.ref p), g2] ∧ Keep st st' ∧ st' r = some (.lst (S.map D.str)) ∧ st' p = some (.lst ((ddS [] (S.take (i + 1))).map D.str)), rt := (endsOf Q).rt, bk := nx, ct := fun env st' => ∃ g2, env = [some (.ref a), some (.ref p), g2] ∧ Keep st st' ∧ st' r = some (.lst (S.map D.str)) ∧ st' p = some (.lst ((ddS [] (S.take (i + 1))).map D.str)) } [some (.ref a), some (.ref p), some (.str x)] st3 := fun _ hne => by
        rw [sDrop_a, mMeth_a]
        simp only [mVar_a, vAt_a, vO_some, List.getElem?_cons_zero, List.getElem?_cons_succ]
        refine ⟨⟨p, _, rfl, by rw [lp3]; rfl⟩, ?_⟩
        simp only [mCons_a, mNil_a, mVar_a, vAt_a, vO_some, List.getElem?_cons_zero, List.getElem?_cons_succ]
        refine oAppend_l lp3 hsz (fin _ _ (u3.mut hp) (by rw [put_ne rp]; exact lr3) ?_)
        rw [put_same, if_neg hne, List.map_append]
        rfl
      rcases List.eq_nil_or_concat F with hF | ⟨G, y, hF⟩
      · rw [if_pos (by rw [hF]; rfl)]
        simp only [if_true]
        exact app true (by rw [hF]; simp)
      · have e5 : (F.map D.str).isEmpty = false := by rw [hF]; simp
        have e6 : atI (F.map D.str) (-1) = some (.str y) := by rw [atI_end, hF]; simp
        have e7 : F.getLast? = some y := by rw [hF]; simp
        rw [e5, if_neg (by simp), mTest_a, mBin_a, mBin_a]
        simp only [mVar_a, vAt_a, vO_some, List.getElem?_cons_zero, List.getElem?_cons_succ, mC_a]
        refine oIx_l (xs := F.map D.str) (by rw [lp3]; rfl) e6 ?_
        rw [oNe_str, bAt_a]
        by_cases c : y = x
        · rw [if_neg (by simp [c]), sNext_a]
          exact fin _ _ u3 lr3 (by rw [lp3, if_pos (by rw [e7, c])])
        · rw [if_pos (by simp [c])]
          exact app true (by rw [e7]; simpa using c)
    · rintro env st3 ⟨g2, rfl, u3, lr3, lp3⟩
      rw [List.length_map, List.take_length] at lp3
      exact hnx _ _ ⟨g2, rfl, u3, lp3⟩
  · rintro env st2 ⟨g2, rfl, u1, lp1⟩
    have e2 := ddS_len (sortBy id L) []
    simp only [List.length_nil] at e2
    have hs : ((lotS L).map D.str).length ≤ sizeLine := by rw [List.length_map, szL]; unfold lotS; omega
    walk_at "s"
    exact endsOf_i (q2.out _ u1)
end TB
end L2.DL

namespace L2.DL
open PySem PySem.Spec PyProof.Rows
local macro_rules | `(tactic| walk_at "s") => `(tactic| try simp only [mNeNil_a, mEqNil_a, nilO_ref, mRevS_a, rvsO_str, okPy_nil, List.isEmpty_nil, List.isEmpty_cons, sqAsg_a, sqDrop_a, sqPar_a, sqPar3_a, sqRet_a, sqNext_a, sqSeq_a, sNext_a, sBreak_a, sCont_a, sDrop_a, sRet_a, sRetN_a, sIf_a, sAsg_a, sPar_a, sPar3_a, mVar_a, vAt_a, mC_a, mBin_a, mTest_a, bAt_a, mAnd_a, mOr_a, mNot_a, mYes_a, mAndV_a, mOrV_a, mNotV_a, mIf_a, mNil_a, mCons_a, mTup_a, mLst_a, mCall_a, mCallK_a, mMeth_a, mSl_a, mNoPart_a, iAt_a, mPart_a, mIsi_b, tysO_some, List.any_cons, List.any_nil, Bool.or_false, Bool.false_or, Bool.or_true, Bool.true_or, Int.natCast_pos, gN_a, gTup_a, gCons_a, gNil_a, gSub_a, sFor_a, mLc_a, mDc_a, wSeq_a, sqO_tup, sqO_str, sqO_ref, wRng1_a, wRng2_b, wRng3_b, wEnum_a, enO_tup, enO_ref, mRev_a, revO_ref, List.getD_cons_zero, List.getD_cons_succ, ite_self, List.set_cons_zero, List.set_cons_succ, List.getElem?_cons_zero, List.getElem?_cons_succ, oAdd_int, oAdd_str, oAdd_tup, oAdd_ref, oSub_int, oMul_int, oDiv_int, oMod_int, oPow_int, oLt_int, oLe_int, oGt_int, oGe_int, oIs_nn, oIs_bn, oIs_in, oIs_sn, oIs_tn, oIs_rn, oIs_bb, oIs_nb, oIs_ib, oIs_sb, oIs_tb, oIs_rb, oIsi_int, oIsi_str, oIsi_bool, oIsi_tuple, oIsi_list, oIsi_dict, tyO_some, tyD_non, tyD_bl, tyD_int, tyD_str, tyD_tup, isi_facts, oEq_int, oNe_int, oEq_str, oNe_str, oSl_tup, oSl_str, oSl_ref, oLen_tup, oLen_str, oLen_ref, oAbs_int, oInt_int, oInt_bl, oMax_int, oMin_int, oTuple_tup, oTuple_ref, oList_tup, oList_str, oList_ref, oIx_tupE, oIx_ref, oAppend_ref, oPop_ref, oExtend_tupE, oSet_ref, isL_ref, isS_str, vO_some, ixO_lst, ixO_dicI, ixO_dicS, ixO_rodI, ixO_rodS, lsO_lst, rdO_lst, rdO_rol, lenO_lst, lenO_dic, lenO_rol, addO_lst, setO_lst, setO_dicI, setO_dicS, atI_zero, atI_one, atI_two, atI_end, startE, wipeE, List.map_cons, List.map_nil, List.length_cons, List.length_nil, List.replicate, List.cons_append, List.nil_append, Nat.reduceAdd, Nat.reduceSub, List.replicate_succ, List.replicate_zero, put_same, Nat.zero_le, Int.reduceLT, Int.reduceLE, Nat.reduceLT, Nat.reduceLeDiff, and_true, true_and, Bool.false_eq_true, ↓reduceIte, Bool.not_true, Bool.not_false, decide_true, decide_false, *])
local macro_rules | `(tactic| walk_at "i") => `(tactic| try simp only [mNeNil_a, mEqNil_a, nilO_ref, mRevS_a, rvsO_str, okPy_nil, List.isEmpty_nil, List.isEmpty_cons, sqIf_a, sqAsg_a, sqDrop_a, sqPar_a, sqPar3_a, sqRet_a, sqNext_a, sqSeq_a, sNext_a, sBreak_a, sCont_a, sDrop_a, sRet_a, sRetN_a, sIf_a, sAsg_a, sPar_a, sPar3_a, mVar_a, vAt_a, mC_a, mBin_a, mTest_a, bAt_a, mAnd_a, mOr_a, mNot_a, mYes_a, mAndV_a, mOrV_a, mNotV_a, mIf_a, mNil_a, mCons_a, mTup_a, mLst_a, mCall_a, mCallK_a, mMeth_a, mSl_a, mNoPart_a, iAt_a, mPart_a, mIsi_b, tysO_some, List.any_cons, List.any_nil, Bool.or_false, Bool.false_or, Bool.or_true, Bool.true_or, Int.natCast_pos, gN_a, gTup_a, gCons_a, gNil_a, gSub_a, sFor_a, mLc_a, mDc_a, wSeq_a, sqO_tup, sqO_str, sqO_ref, wRng1_a, wRng2_b, wRng3_b, wEnum_a, enO_tup, enO_ref, mRev_a, revO_ref, List.getD_cons_zero, List.getD_cons_succ, ite_self, List.set_cons_zero, List.set_cons_succ, List.getElem?_cons_zero, List.getElem?_cons_succ, oAdd_int, oAdd_str, oAdd_tup, oAdd_ref, oSub_int, oMul_int, oDiv_int, oMod_int, oPow_int, oLt_int, oLe_int, oGt_int, oGe_int, oIs_nn, oIs_bn, oIs_in, oIs_sn, oIs_tn, oIs_rn, oIs_bb, oIs_nb, oIs_ib, oIs_sb, oIs_tb, oIs_rb, oIsi_int, oIsi_str, oIsi_bool, oIsi_tuple, oIsi_list, oIsi_dict, tyO_some, tyD_non, tyD_bl, tyD_int, tyD_str, tyD_tup, isi_facts, oEq_int, oNe_int, oEq_str, oNe_str, oSl_tup, oSl_str, oSl_ref, oLen_tup, oLen_str, oLen_ref, oAbs_int, oInt_int, oInt_bl, oMax_int, oMin_int, oTuple_tup, oTuple_ref, oList_tup, oList_str, oList_ref, oIx_tupE, oIx_ref, oAppend_ref, oPop_ref, oExtend_tupE, oSet_ref, isL_ref, isS_str, vO_some, ixO_lst, ixO_dicI, ixO_dicS, ixO_rodI, ixO_rodS, lsO_lst, rdO_lst, rdO_rol, lenO_lst, lenO_dic, lenO_rol, addO_lst, setO_lst, setO_dicI, setO_dicS, atI_zero, atI_one, atI_two, atI_end, startE, wipeE, List.map_cons, List.map_nil, List.length_cons, List.length_nil, List.replicate, List.cons_append, List.nil_append, Nat.reduceAdd, Nat.reduceSub, List.replicate_succ, List.replicate_zero, put_same, Nat.zero_le, Int.reduceLT, Int.reduceLE, Nat.reduceLT, Nat.reduceLeDiff, and_true, true_and, Bool.false_eq_true, ↓reduceIte, Bool.not_true, Bool.not_false, decide_true, decide_false, *])
namespace TB
def linesAt (st : Sto) (x : D) (ls : List Ln) : Prop := x = .tup (ls.map lnD) ∨ ∃ a, x = .ref a ∧ st a = some (.lst (ls.map lnD))
def S_law_touched : DSp := fun vs st Q => ∃ (x : D) (ls : List Ln), vs = [x] ∧ linesAt st x ls ∧ (∀ l ∈ ls, LnOk l) ∧ ls.length ≤ 8 ∧ ∀ st', Keep st st' → Q (.tup ((lotS (touchL ls)).map D.str)) st'
/-- _law_touched(lines): 0 lines 1 found 2 line -/
def t_law_touched : MS := sSeq (sAsg (mLst (mNil)) (gN 1))
    (sSeq (sFor (wSeq (mVar 0)) (gN 2) (sSeq (sIf (mTest (mBin oNe (mCall S_law_own_name (mCons (mVar 2) (mNil))) (mC (.str "")))) (sDrop (mMeth isL oAppend (mVar 1) (mCons (mBin oIx (mVar 2) (mC (.int 1))) (mNil)))) (sNext))
    (sSeq (sIf (mTest (mBin oEq (mBin oIx (mVar 2) (mC (.int 0))) (mC (.str "rule")))) (sAsg (mBin oAdd (mVar 1) (mCall S_law_signs_named (mCons (mBin oIx (mVar 2) (mC (.int 1))) (mNil)))) (gN 1)) (sNext))
    (sIf (mTest (mBin oEq (mBin oIx (mVar 2) (mC (.int 0))) (mC (.str "all")))) (sDrop (mMeth isL oAppend (mVar 1) (mCons (mC (.str "all")) (mNil)))) (sNext)))))
    (sRet (mCall S_law_lot_of (mCons (mVar 1) (mNil)))))
theorem touchL1_nm {l : Ln} (h : LnOk l) : ∀ x ∈ touchL1 l, nmOk x := by
  cases l with
  | tell w x r => intro y hy; rw [List.mem_singleton.mp hy]; exact h.2.2.1
  | rule t r =>
    intro y hy
    obtain ⟨s, hs, rfl⟩ := List.mem_map.mp (show y ∈ (t.filter fun s => decide (s.2 ≠ -1)).map (·.1) from hy)
    exact (h.2.2 s (List.mem_filter.mp hs).1).1
  | other w r =>
    intro y hy
    have hy : y ∈ if w = "all" then (["all"] : List Str) else [] := hy
    split at hy
    · rw [List.mem_singleton.mp hy]; exact ⟨by decide, by decide⟩
    · cases hy
theorem touchL_nm {ls : List Ln} (h : ∀ l ∈ ls, LnOk l) : ∀ x ∈ touchL ls, nmOk x := fun x hx => by
  obtain ⟨l, hl, hx⟩ := List.mem_flatMap.mp hx
  exact touchL1_nm (h l hl) x hx
theorem tt_word {X Y : Option D} {l : Ln} {k : Str} {st : Sto} {Q : Bool → Sto → Prop} (q : Q (decide (wordL l = k)) st) : mTest (mBin oEq (mBin oIx (mVar 2) (mC (.int 0))) (mC (.str k))) [X, Y, some (lnD l)] st Q := by
  simp only [mTest_a, mBin_a, mVar_a, vAt_a, vO_some, List.getElem?_cons_zero, List.getElem?_cons_succ, mC_a]
  rw [lnD_eq]
  refine oIx_t (at0 _ _) ?_
  rw [oEq_str, bAt_a]
  exact q
theorem tt_own {X Y : Option D} {l : Ln} {st : Sto} {Q : Bool → Sto → Prop} (h : LnOk l) (q : ∀ st', Keep st st' → Q (!decide (told l = "")) st') : mTest (mBin oNe (mCall S_law_own_name (mCons (mVar 2) (mNil))) (mC (.str ""))) [X, Y, some (lnD l)] st Q := by
  simp only [mTest_a, mBin_a, mCall_a, mCons_a, mNil_a, mVar_a, vAt_a, vO_some, List.getElem?_cons_zero, List.getElem?_cons_succ, mC_a]
  refine ⟨l, rfl, h, fun st' k => ?_⟩
  dsimp only
  rw [oNe_str, bAt_a]
  exact q st' k
theorem app_at {X Z : Option D} {p : Addr} {F : List Str} {m : ME} {y : Str} {nx bk ct : _} {rt : _} {st : Sto} (lp : st p = some (.lst (F.map D.str))) (hl : F.length < 1000) (hm : ∀ Q : DK, Q (.str y) st → m [X, some (.ref p), Z] st Q) (q : nx [X, some (.ref p), Z] (put st p (.lst ((F ++ [y]).map D.str)))) :
    sDrop (mMeth isL oAppend (mVar 1) (mCons m (mNil))) { nx := nx, rt := rt, bk := bk, ct := ct } [X, some (.ref p), Z] st := by
  rw [sDrop_a, mMeth_a]
  simp only [mVar_a, vAt_a, vO_some, List.getElem?_cons_zero, List.getElem?_cons_succ]
  refine ⟨⟨p, _, rfl, by rw [lp]; rfl⟩, ?_⟩
  rw [mCons_a]
  refine hm _ ?_
  rw [mNil_a]
  refine oAppend_l lp (by rw [List.length_map, szL]; omega) ?_
  rw [List.map_append] at q
  exact q
theorem kp_law_touched : Keeps 1 3 S_law_touched t_law_touched := by
  refine ⟨fun ds st Q ⟨s, L, e, _⟩ => by rw [e]; rfl, fun ds st Q ⟨x, ls, e, hx, h, hl, q⟩ => ?_⟩
  subst e
  have z0 : 0 ≤ sizeLine := by decide
  have q2 := Hdn.mk q
  clear q
  unfold t_law_touched
  refine sSeq_t fun T hT => ?_
  walk_at "s"
  intro p hp
  have lp : put st p (.lst []) p = some (.lst ((touchL (ls.take 0)).map D.str)) := put_same
  have u0 := Keep.put (o := .lst []) hp
  have hx1 : linesAt (put st p (.lst [])) x ls := by
    rcases hx with h | ⟨a, h, la⟩
    · exact .inl h
    · exact .inr ⟨a, h, u0.l la⟩
  generalize put st p (.lst []) = st1 at *
  subst hT
  refine sSeq_i (fun env st' => ∃ p g2, env = [some x, some (.ref p), g2] ∧ Keep st st' ∧ Nf st p ∧ st' p = some (.lst ((touchL ls).map D.str))) (fun nx hnx => ?_) ?_
  · have loop : ∀ (ok : Sto → Prop), (∀ st', linesAt st' x ls → ok st') → ∃ W : Nat → Env → Sto → Prop, W 0 [some x, some (.ref p), none] st1 ∧ (∀ i env st, i ≤ (ls.map lnD).length → W i env st → ok st) ∧ (∀ i z env st, (ls.map lnD)[i]? = some z → W i env st →
        gN 2 z env st fun env' st' => (sSeq (sIf (mTest (mBin oNe (mCall S_law_own_name (mCons (mVar 2) (mNil))) (mC (.str "")))) (sDrop (mMeth isL oAppend (mVar 1) (mCons (mBin oIx (mVar 2) (mC (.int 1))) (mNil)))) (sNext))
    (sSeq (sIf (mTest (mBin oEq (mBin oIx (mVar 2) (mC (.int 0))) (mC (.str "rule")))) (sAsg (mBin oAdd (mVar 1) (mCall S_law_signs_named (mCons (mBin oIx (mVar 2) (mC (.int 1))) (mNil)))) (gN 1)) (sNext))
    (sIf (mTest (mBin oEq (mBin oIx (mVar 2) (mC (.int 0))) (mC (.str "all")))) (sDrop (mMeth isL oAppend (mVar 1) (mCons (mC (.str "all")) (mNil)))) (sNext)))) { nx := W (i + 1), rt := (endsOf Q).rt, bk := nx, ct := W (i + 1) } env' st') ∧ (∀ env st, W (ls.map lnD).length env st → nx env st) := by
      intro ok hok
      refine ⟨fun i env st' => ∃ p g2, env = [some x, some (.ref p), g2] ∧ Keep st st' ∧ Nf st p ∧ linesAt st' x ls ∧ st' p = some (.lst ((touchL (ls.take i)).map D.str)), ⟨p, none, rfl, u0, hp, hx1, lp⟩, fun i env st' _ ⟨_, _, _, _, _, hx, _⟩ => hok _ hx, ?_, ?_⟩
      · rintro i z env st2 hz ⟨p2, g2, rfl, u2, hp2, hx2, lp2⟩
        rw [List.getElem?_map, Option.map_eq_some_iff] at hz
        obtain ⟨l, hli, rfl⟩ := hz
        have hlo := h l (List.mem_of_getElem? hli)
        have e1 : touchL (ls.take (i + 1)) = touchL (ls.take i) ++ touchL1 l := flat_take (f := touchL1) hli
        have e2 := touchL_len (ls := ls.take i) fun l hl => h l (List.mem_of_mem_take hl)
        have e4 : (ls.take i).length ≤ 8 := by rw [List.length_take]; omega
        rw [gN_a]
        dsimp only
        rw [e1]
        clear hnx e1
        generalize touchL (ls.take i) = F at *
        simp only [List.set_cons_zero, List.set_cons_succ]
        have keepX : ∀ {s1 s2 : Sto}, linesAt s1 x ls → Keep s1 s2 → linesAt s2 x ls := fun hx k => by
          rcases hx with h | ⟨a, h, la⟩
          · exact .inl h
          · exact .inr ⟨a, h, k.l la⟩
        have keepP : ∀ {s1 : Sto} {q : Addr} {o : Ob}, linesAt s1 x ls → (∀ ys, s1 q = some (.lst ys) → ∀ a, x = .ref a → q ≠ a) → linesAt s1 x ls := fun hx _ => hx
        have xst : linesAt st x ls := hx
        have putX : ∀ {s1 : Sto} {q : Addr} {o : Ob}, linesAt s1 x ls → Nf st q → linesAt (put s1 q o) x ls := fun hx1 hq => by
          rcases hx1 with h | ⟨a, h, la⟩
          · exact .inl h
          · rcases xst with h2 | ⟨a2, h2, la2⟩
            · rw [h] at h2; cases h2
            · rw [h] at h2; cases h2
              exact .inr ⟨a, h, by rw [put_ne (hq.ne la2).symm]; exact la⟩
        -- the first
        refine sSeq_i (fun env st' => env = [some x, some (.ref p2), some (lnD l)] ∧ Keep st st' ∧ linesAt st' x ls ∧ st' p2 = some (.lst ((F ++ if told l = "" then [] else [told l]).map D.str))) (fun nx1 hnx1 => ?_) ?_
        · rw [sIf_a]
          refine tt_own hlo fun st3 u3 => ?_
          have lp3 := u3.l lp2
          by_cases c : told l = ""
          · rw [if_neg (by simp [c]), sNext_a]
            exact hnx1 _ _ ⟨rfl, u2.trans u3, keepX hx2 u3, by rw [if_pos c, List.append_nil]; exact lp3⟩
          · rw [if_pos (by simp [c])]
            refine app_at lp3 (by omega) (y := told l) (fun Q hQ => ?_) (hnx1 _ _ ⟨rfl, (u2.trans u3).mut hp2, putX (keepX hx2 u3) hp2, by rw [put_same, if_neg c]⟩)
            simp only [mBin_a, mVar_a, vAt_a, vO_some, List.getElem?_cons_zero, List.getElem?_cons_succ, mC_a]
            rw [lnD_eq, told_rest c]
            exact oIx_t (at1 _ _ _) hQ
        · rintro env st3 ⟨rfl, u3, hx3, lp3⟩
          clear u2 hx2 lp2
          refine sSeq_i (fun env st' => ∃ p3, env = [some x, some (.ref p3), some (lnD l)] ∧ Keep st st' ∧ Nf st p3 ∧ linesAt st' x ls ∧ st' p3 = some (.lst ((F ++ if wordL l = "all" then [] else touchL1 l).map D.str))) (fun nx1 hnx1 => ?_) ?_
          · rw [sIf_a]
            refine tt_word ?_
            cases l with
            | tell w y r =>
              have hw : w ≠ "rule" := fun e => absurd (e ▸ hlo.2.1) (by decide)
              have hw2 : w ≠ "all" := fun e => absurd (e ▸ hlo.2.1) (by decide)
              have hy : y ≠ "" := fun e => by
                have := hlo.2.2.2
                rw [e] at this
                exact absurd this (by decide)
              rw [if_neg (by simpa using (show wordL (.tell w y r) ≠ "rule" from hw)), sNext_a]
              refine hnx1 _ _ ⟨p2, rfl, u3, hp2, hx3, ?_⟩
              rw [if_neg (show ¬ wordL (.tell w y r) = "all" from hw2), lp3]
              rw [if_neg (show ¬ told (.tell w y r) = "" from hy)]
              rfl
            | other w r =>
              rw [if_neg (by simpa using (show wordL (.other w r) ≠ "rule" from hlo.2.2)), sNext_a]
              refine hnx1 _ _ ⟨p2, rfl, u3, hp2, hx3, ?_⟩
              rw [lp3]
              by_cases c : w = "all"
              · rw [if_pos (show wordL (.other w r) = "all" from c)]; rfl
              · rw [if_neg (show ¬ wordL (.other w r) = "all" from c)]
                have e : touchL1 (.other w r) = [] := by
                  show (if w = "all" then _ else []) = _
                  rw [if_neg c]
                rw [e]; rfl
            | rule t r =>
              rw [if_pos (by rfl)]
              have ht := hlo.2.1
              have hn := nmsT_len t
              have lp4 : st3 p2 = some (.lst (F.map D.str)) := by rw [lp3]; simp [told]
              clear lp3
              rw [sAsg_a, mBin_a]
              simp only [mVar_a, vAt_a, vO_some, List.getElem?_cons_zero, List.getElem?_cons_succ, mCall_a, mCons_a, mNil_a, mBin_a, mC_a]
              refine oIx_t (v := termD t) (at1 _ _ _) ⟨t, rfl, by omega, fun s hs => (hlo.2.2 s hs).2, fun p5 st5 hp5 u5 l5 => ?_⟩
              have lp5 := u5.l lp4
              refine oAdd_lst lp5 l5 (by rw [List.length_map, List.length_map, szL]; omega) fun p6 hp6 => ?_
              rw [gN_a]
              have u6 := (u3.trans u5).new (o := .lst (F.map D.str ++ (nmsT t).map D.str)) hp6
              have hp60 := hp6.backK (u3.trans u5)
              refine hnx1 _ _ ⟨p6, rfl, u6, hp60, putX (keepX hx3 u5) hp60, ?_⟩
              rw [put_same, ← List.map_append, if_neg (show ¬ wordL (.rule t r) = "all" from (by decide : ¬ ("rule" : Str) = "all"))]
              rfl
          · rintro env st4 ⟨p3, rfl, u4, hp3, hx4, lp4⟩
            clear u3 hx3 lp3
            rw [sIf_a]
            refine tt_word ?_
            have hF : (F ++ if wordL l = "all" then [] else touchL1 l).length < 1000 := by
              have := touchL1_len hlo
              rw [List.length_append]
              split
              · simp; omega
              · omega
            by_cases c : wordL l = "all"
            · rw [if_pos (by simpa using c)]
              refine app_at lp4 hF (y := "all") (fun Q hQ => hQ) ⟨p3, _, rfl, u4.mut hp3, hp3, putX hx4 hp3, ?_⟩
              rw [put_same, if_pos c, List.append_nil]
              have e : touchL1 l = (["all"] : List Str) := by
                cases l with
                | tell w y r => exact absurd ((show w = "all" from c) ▸ hlo.2.1) (by decide)
                | rule t r => exact absurd (show ("rule" : Str) = "all" from c) (by decide)
                | other w r =>
                  show (if w = "all" then _ else _) = _
                  rw [if_pos (show w = "all" from c)]
              rw [e]
            · rw [if_neg (by simpa using c), sNext_a]
              rw [if_neg c] at lp4
              exact ⟨p3, _, rfl, u4, hp3, hx4, lp4⟩
      · rintro env st2 ⟨p2, g2, rfl, u2, hp2, hx2, lp2⟩
        rw [List.length_map, List.take_length] at lp2
        exact hnx _ _ ⟨p2, g2, rfl, u2, hp2, lp2⟩
    rcases hx with hxe | ⟨a, hxe, la⟩
    · subst hxe
      walk_at "s"
      exact loop _ fun _ _ => trivial
    · subst hxe
      rcases hx1 with h | ⟨b, h, la1⟩
      · cases h
      · cases h
        walk_at "s"
        refine loop _ fun st' hx' => ?_
        rcases hx' with h | ⟨b, h, la1⟩
        · cases h
        · cases h
          show rdL (st' _) = _
          rw [la1]; rfl
  · rintro env st2 ⟨p2, g2, rfl, u2, hp2, lp2⟩
    have e2 := touchL_len h
    rw [sRet_a]
    simp only [mCall_a, mCons_a, mNil_a, mVar_a, vAt_a, vO_some, List.getElem?_cons_zero, List.getElem?_cons_succ]
    exact ⟨p2, touchL ls, rfl, lp2, by omega, touchL_nm h, fun st3 u3 => endsOf_i (q2.out _ (u2.trans u3))⟩
end TB
end L2.DL

namespace L2.DL
open PySem PySem.Spec PyProof.Rows
local macro_rules | `(tactic| walk_at "s") => `(tactic| try simp only [mNeNil_a, mEqNil_a, nilO_ref, mRevS_a, rvsO_str, okPy_nil, List.isEmpty_nil, List.isEmpty_cons, sqAsg_a, sqDrop_a, sqPar_a, sqPar3_a, sqRet_a, sqNext_a, sqSeq_a, sNext_a, sBreak_a, sCont_a, sDrop_a, sRet_a, sRetN_a, sIf_a, sAsg_a, sPar_a, sPar3_a, mVar_a, vAt_a, mC_a, mBin_a, mTest_a, bAt_a, mAnd_a, mOr_a, mNot_a, mYes_a, mAndV_a, mOrV_a, mNotV_a, mIf_a, mNil_a, mCons_a, mTup_a, mLst_a, mCall_a, mCallK_a, mMeth_a, mSl_a, mNoPart_a, iAt_a, mPart_a, mIsi_b, tysO_some, List.any_cons, List.any_nil, Bool.or_false, Bool.false_or, Bool.or_true, Bool.true_or, Int.natCast_pos, gN_a, gTup_a, gCons_a, gNil_a, gSub_a, sFor_a, mLc_a, mDc_a, wSeq_a, sqO_tup, sqO_str, sqO_ref, wRng1_a, wRng2_b, wRng3_b, wEnum_a, enO_tup, enO_ref, mRev_a, revO_ref, List.getD_cons_zero, List.getD_cons_succ, ite_self, List.set_cons_zero, List.set_cons_succ, List.getElem?_cons_zero, List.getElem?_cons_succ, oAdd_int, oAdd_str, oAdd_tup, oAdd_ref, oSub_int, oMul_int, oDiv_int, oMod_int, oPow_int, oLt_int, oLe_int, oGt_int, oGe_int, oIs_nn, oIs_bn, oIs_in, oIs_sn, oIs_tn, oIs_rn, oIs_bb, oIs_nb, oIs_ib, oIs_sb, oIs_tb, oIs_rb, oIsi_int, oIsi_str, oIsi_bool, oIsi_tuple, oIsi_list, oIsi_dict, tyO_some, tyD_non, tyD_bl, tyD_int, tyD_str, tyD_tup, isi_facts, oEq_int, oNe_int, oEq_str, oNe_str, oSl_tup, oSl_str, oSl_ref, oLen_tup, oLen_str, oLen_ref, oAbs_int, oInt_int, oInt_bl, oMax_int, oMin_int, oTuple_tup, oTuple_ref, oList_tup, oList_str, oList_ref, oIx_tupE, oIx_ref, oAppend_ref, oPop_ref, oExtend_tupE, oSet_ref, isL_ref, isS_str, vO_some, ixO_lst, ixO_dicI, ixO_dicS, ixO_rodI, ixO_rodS, lsO_lst, rdO_lst, rdO_rol, lenO_lst, lenO_dic, lenO_rol, addO_lst, setO_lst, setO_dicI, setO_dicS, atI_zero, atI_one, atI_two, atI_end, startE, wipeE, List.map_cons, List.map_nil, List.length_cons, List.length_nil, List.replicate, List.cons_append, List.nil_append, Nat.reduceAdd, Nat.reduceSub, List.replicate_succ, List.replicate_zero, put_same, Nat.zero_le, Int.reduceLT, Int.reduceLE, Nat.reduceLT, Nat.reduceLeDiff, and_true, true_and, Bool.false_eq_true, ↓reduceIte, Bool.not_true, Bool.not_false, decide_true, decide_false, *])
local macro_rules | `(tactic| walk_at "i") => `(tactic| try simp only [mNeNil_a, mEqNil_a, nilO_ref, mRevS_a, rvsO_str, okPy_nil, List.isEmpty_nil, List.isEmpty_cons, sqIf_a, sqAsg_a, sqDrop_a, sqPar_a, sqPar3_a, sqRet_a, sqNext_a, sqSeq_a, sNext_a, sBreak_a, sCont_a, sDrop_a, sRet_a, sRetN_a, sIf_a, sAsg_a, sPar_a, sPar3_a, mVar_a, vAt_a, mC_a, mBin_a, mTest_a, bAt_a, mAnd_a, mOr_a, mNot_a, mYes_a, mAndV_a, mOrV_a, mNotV_a, mIf_a, mNil_a, mCons_a, mTup_a, mLst_a, mCall_a, mCallK_a, mMeth_a, mSl_a, mNoPart_a, iAt_a, mPart_a, mIsi_b, tysO_some, List.any_cons, List.any_nil, Bool.or_false, Bool.false_or, Bool.or_true, Bool.true_or, Int.natCast_pos, gN_a, gTup_a, gCons_a, gNil_a, gSub_a, sFor_a, mLc_a, mDc_a, wSeq_a, sqO_tup, sqO_str, sqO_ref, wRng1_a, wRng2_b, wRng3_b, wEnum_a, enO_tup, enO_ref, mRev_a, revO_ref, List.getD_cons_zero, List.getD_cons_succ, ite_self, List.set_cons_zero, List.set_cons_succ, List.getElem?_cons_zero, List.getElem?_cons_succ, oAdd_int, oAdd_str, oAdd_tup, oAdd_ref, oSub_int, oMul_int, oDiv_int, oMod_int, oPow_int, oLt_int, oLe_int, oGt_int, oGe_int, oIs_nn, oIs_bn, oIs_in, oIs_sn, oIs_tn, oIs_rn, oIs_bb, oIs_nb, oIs_ib, oIs_sb, oIs_tb, oIs_rb, oIsi_int, oIsi_str, oIsi_bool, oIsi_tuple, oIsi_list, oIsi_dict, tyO_some, tyD_non, tyD_bl, tyD_int, tyD_str, tyD_tup, isi_facts, oEq_int, oNe_int, oEq_str, oNe_str, oSl_tup, oSl_str, oSl_ref, oLen_tup, oLen_str, oLen_ref, oAbs_int, oInt_int, oInt_bl, oMax_int, oMin_int, oTuple_tup, oTuple_ref, oList_tup, oList_str, oList_ref, oIx_tupE, oIx_ref, oAppend_ref, oPop_ref, oExtend_tupE, oSet_ref, isL_ref, isS_str, vO_some, ixO_lst, ixO_dicI, ixO_dicS, ixO_rodI, ixO_rodS, lsO_lst, rdO_lst, rdO_rol, lenO_lst, lenO_dic, lenO_rol, addO_lst, setO_lst, setO_dicI, setO_dicS, atI_zero, atI_one, atI_two, atI_end, startE, wipeE, List.map_cons, List.map_nil, List.length_cons, List.length_nil, List.replicate, List.cons_append, List.nil_append, Nat.reduceAdd, Nat.reduceSub, List.replicate_succ, List.replicate_zero, put_same, Nat.zero_le, Int.reduceLT, Int.reduceLE, Nat.reduceLT, Nat.reduceLeDiff, and_true, true_and, Bool.false_eq_true, ↓reduceIte, Bool.not_true, Bool.not_false, decide_true, decide_false, *])
namespace TB
/-! draws by what comes -/
section
variable {n m : Addr} {env : Env} {st : Sto} {Q : DK}
theorem any_c {b : Int} (h0 : env[0]? = some (some (.ref n))) (hd : Deal st n m) (hb : 0 < b ∧ b < 1000000000) (k : ∀ v : Int, 0 ≤ v → v < b → ∀ st', Up n m st st' → Q (.int v) st') : mCall S_law_any (mCons (mVar 0) (mCons (mC (.int b)) (mNil))) env st Q := by
  rw [mCall_a, mCons_a, mVar_a, h0, vAt_a, mCons_a, mC_a, mNil_a]
  exact ⟨n, m, b, rfl, hd, hb.1, hb.2, fun v st' h1 h2 u => k v h1 h2 st' u⟩
theorem of_c {ma : MA} {ds : List D} (h0 : env[0]? = some (some (.ref n))) (hd : Deal st n m) (hm : ∀ Q : List D → Sto → Prop, Q ds st → ma env st Q) (hl : 0 < ds.length ∧ ds.length < 1000) (k : ∀ d ∈ ds, ∀ st', Up n m st st' → Q d st') :
    mCall S_law_of (mCons (mVar 0) (mCons (mLst ma) (mNil))) env st Q := by
  rw [mCall_a, mCons_a, mVar_a, h0, vAt_a, mCons_a, mLst_a]
  refine hm _ ⟨by rw [szL]; omega, fun p hp => ?_⟩
  rw [mNil_a]
  have pd := hp.deal hd
  have u := Up.of hd (Keep.put (o := .lst ds) hp)
  exact ⟨n, m, .ref p, ds, rfl, u.deal, ⟨pd.1, pd.2, put_same⟩, hl.1, by omega, fun d st' hdm u2 => k d hdm st' (u.trans u2)⟩
theorem of_v {i : Nat} {a : Addr} {xs : List D} (h0 : env[0]? = some (some (.ref n))) (hi : env[i]? = some (some (.ref a))) (hd : Deal st n m) (ha : sq st n m (.ref a) xs) (hl : 0 < xs.length ∧ xs.length < 1000) (k : ∀ d ∈ xs, ∀ st', Up n m st st' → Q d st') :
    mCall S_law_of (mCons (mVar 0) (mCons (mVar i) (mNil))) env st Q := by
  rw [mCall_a, mCons_a, mVar_a, h0, vAt_a, mCons_a, mVar_a, hi, vAt_a, mNil_a]
  exact ⟨n, m, .ref a, xs, rfl, hd, ha, hl.1, by omega, fun d st' hdm u2 => k d hdm st' u2⟩
end
theorem sq_up {st st' : Sto} {n m a : Addr} {xs : List D} (h : sq st n m (.ref a) xs) (u : Up n m st st') : sq st' n m (.ref a) xs := ⟨h.1, h.2.1, u.l h.1 h.2.1 h.2.2⟩
def S_law_few : DSp := fun vs st Q => ∃ (n m : Addr) (b : Int), vs = [.ref n, .int b] ∧ Deal st n m ∧ 0 < b ∧ b < 1000000 ∧ ∀ (k : Int) st', 1 ≤ k → k ≤ b → Up n m st st' → Q (.int k) st'
/-- _law_few(deal, many): 0 deal 1 many -/
def t_law_few : MS := sRet (mBin oAdd (mC (.int 1)) (mCall S_law_any (mCons (mVar 0) (mCons (mVar 1) (mNil)))))
theorem kp_law_few : Keeps 2 2 S_law_few t_law_few := by
  refine ⟨fun ds st Q ⟨n, m, b, e, _⟩ => by rw [e]; rfl, fun ds st Q ⟨n, m, b, e, hd, h1, h2, q⟩ => ?_⟩
  subst e
  unfold t_law_few
  have q2 := Hdn.mk q
  clear q
  walk_at "s"
  refine ⟨n, m, b, rfl, hd, h1, by omega, fun v st' a1 a2 u => ?_⟩
  exact endsOf_i (q2.out (1 + v) st' (by omega) (by omega) u)
def S_law_row : DSp := fun vs st Q => ∃ (n m : Addr) (k : Nat), vs = [.ref n, .int k] ∧ Deal st n m ∧ k ≤ 100 ∧ ∀ xs st', Pd 1 (.tup xs) → Up n m st st' → Q (.tup xs) st'
/-- _law_row(deal, many): 0 deal 1 many 2 place -/
def t_law_row : MS := sRet (mIf (mOr (mTest (mBin oEq (mVar 1) (mC (.int 0)))) (mTest (mBin oEq (mCall S_law_any (mCons (mVar 0) (mCons (mC (.int 3)) (mNil)))) (mC (.int 0))))) (mTup (mNil)) (mCall oTuple (mCons (mCall S_law_mixed (mCons (mVar 0) (mCons (mLc (wRng1 (mVar 1)) (gN 2) (mYes) (mBin oAdd (mVar 2) (mC (.int 1))) [2]) (mNil)))) (mNil))))
theorem kp_law_row : Keeps 2 3 S_law_row t_law_row := by
  refine ⟨fun ds st Q ⟨n, m, b, e, _⟩ => by rw [e]; rfl, fun ds st Q ⟨n, m, k, e, hd, hk, q⟩ => ?_⟩
  subst e
  unfold t_law_row
  have q2 := Hdn.mk q
  have z0 : 0 ≤ sizeLine := by decide
  clear q
  rw [sRet_a, mIf_a, mOr_a, mTest_a, mBin_a, mVar_a]
  have e0 : startE 3 [D.ref n, .int (k : Nat)] = [some (.ref n), some (.int (k : Nat)), none] := rfl
  rw [e0]
  simp only [List.getElem?_cons_zero, List.getElem?_cons_succ, vAt_a, mC_a, oEq_int, bAt_a]
  have nil : ∀ st', Up n m st st' → mTup mNil [some (.ref n), some (.int (k : Nat)), none] st' (endsOf Q).rt := fun st' u => by
    rw [mTup_a, mNil_a]
    exact ⟨z0, endsOf_i (q2.out [] st' (.tup fun x h => absurd h List.not_mem_nil) u)⟩
  by_cases c : (k : Int) = 0
  · rw [decide_eq_true c, if_pos rfl]
    simp only [if_true]
    exact nil st (.refl hd)
  · rw [decide_eq_false c, if_neg (by simp), mTest_a, mBin_a]
    refine any_c rfl hd (by omega) fun v h1 h2 st1 u1 => ?_
    rw [mC_a, oEq_int, bAt_a]
    by_cases c2 : v = 0
    · rw [decide_eq_true c2, if_pos rfl]
      exact nil st1 u1
    · rw [decide_eq_false c2, if_neg (by simp)]
      clear nil
      rw [mCall_a, mCons_a, mCall_a, mCons_a, mVar_a]
      simp only [List.getElem?_cons_zero, List.getElem?_cons_succ, vAt_a]
      rw [mCons_a]
      walk_at "s"
      refine ⟨by omega, lc_keep (fun d => match d with | .int i => some (.int (i + 1)) | _ => none) (fun _ _ => trivial) (by rw [rangeD_len, szL]; omega) (fun y hy st2 u2 P N hP hN => ?_) fun p st2 hp u2 l2 => ?_⟩
      · obtain ⟨i, hi⟩ := List.getElem?_of_mem hy
        obtain ⟨_, rfl⟩ := rangeD_get hi
        have h1 := hP _ st2 rfl .refl
        clear hP hN hy hi
        rw [gN_a]
        walk_at "s"
      have pd := hp.deal u1.deal
      have u3 := u1.then u2
      refine ⟨n, m, p, _, rfl, u3.deal, ⟨pd.1, pd.2, l2⟩, ?_, fun p2 ys st4 hperm _ _ _ u4 l4 => ?_⟩
      · refine Nat.le_trans (List.length_filterMap_le ..) ?_
        rw [rangeD_len]; omega
      refine oTuple_l (by rw [l4]; rfl) (endsOf_i (q2.out _ _ (.tup fun x hx => ?_) (u3.trans u4)))
      have := hperm.mem_iff.mp hx
      obtain ⟨y, hy, e⟩ := List.mem_filterMap.mp this
      obtain ⟨i, hi⟩ := List.getElem?_of_mem hy
      obtain ⟨_, rfl⟩ := rangeD_get hi
      cases e
      exact .int _
def S_law_names_but : DSp := fun vs st Q => ∃ (n m : Addr) (k : Nat), vs = [.ref n, .int k] ∧ Deal st n m ∧ k ≤ 25 ∧
  ∀ (names : List Str) a st', names.length = k → (∀ x ∈ names, nmOk x) → (∀ x ∈ names, 1 ≤ x.length) → a ≠ n → a ≠ m → Nf st a → Up n m st st' → st' a = some (.lst (names.map D.str)) → Q (.ref a) st'
/-- _law_names_but(deal, many): 0 deal 1 many 2 name -/
def t_law_names_but : MS := sRet (mSl (mLc (wSeq (mCall S_law_names (mCons (mVar 0) (mCons (mBin oAdd (mVar 1) (mC (.int 1))) (mNil))))) (gN 2) (mTest (mBin oNe (mVar 2) (mC (.str "all")))) (mVar 2) [2]) (mNoPart) (mPart (mVar 1)))
theorem but_len {l : List Str} {x : Str} (h : l.Nodup) : l.length ≤ (l.filter fun y => decide (y ≠ x)).length + 1 := by
  induction l with
  | nil => exact Nat.zero_le _
  | cons y l ih =>
    rw [List.nodup_cons] at h
    by_cases c : y = x
    · subst c
      rw [List.filter_cons_of_neg (by simp)]
      have : l.filter (fun z => decide (z ≠ y)) = l := List.filter_eq_self.mpr fun z hz => by
        refine decide_eq_true fun e => h.1 ?_
        rw [← e]; exact hz
      rw [this, List.length_cons]
      exact Nat.le_refl _
    · rw [List.filter_cons_of_pos (by simpa using c), List.length_cons, List.length_cons]
      have := ih h.2
      omega
theorem kp_law_names_but : Keeps 2 3 S_law_names_but t_law_names_but := by
  refine ⟨fun ds st Q ⟨n, m, b, e, _⟩ => by rw [e]; rfl, fun ds st Q ⟨n, m, k, e, hd, hk, q⟩ => ?_⟩
  subst e
  unfold t_law_names_but
  have q2 := Hdn.mk q
  clear q
  walk_at "s"
  refine ⟨n, m, k + 1, rfl, hd, by omega, fun names a st1 hl hnm hn1 hnd an am ha u1 la => ?_⟩
  replace hnd := hnd (by omega)
  have hbl := but_len (x := "all") hnd
  walk_at "s"
  refine lc_keep (onS fun x => if x ≠ "all" then some (.str x) else none) (fun st' u => by show rdL (st' a) = _; rw [u.l la]; rfl) (by rw [List.length_map, szL]; omega) (fun y hy st2 u2 P N hP hN => ?_) fun p st2 hp u2 l2 => ?_
  · obtain ⟨x, hx, rfl⟩ := List.mem_map.mp hy
    rw [onS_str] at hP hN
    clear hy la
    by_cases c : x = "all"
    · rw [if_neg (by simp [c])] at hN
      have h1 := hN st2 rfl .refl
      clear hP hN
      rw [gN_a]
      walk_at "s"
    · rw [if_pos c] at hP
      have h1 := hP _ st2 rfl .refl
      clear hP hN
      rw [gN_a]
      walk_at "s"
  have e1 : (names.map D.str).filterMap (onS fun x => if x ≠ "all" then some (.str x) else none) = (names.filter fun (y : Str) => decide (y ≠ "all")).map D.str := by
    rw [onS_map]
    clear hl hnm hn1 hbl la l2
    clear hnd
    induction names with
    | nil => rfl
    | cons x l ih =>
      by_cases c : x = "all"
      · rw [List.filterMap_cons_none (by rw [if_neg (by simp [c])]), List.filter_cons_of_neg (by simp [c]), ih]
      · rw [List.filterMap_cons_some (by rw [if_pos c]), List.filter_cons_of_pos (by simpa using c), ih]
        rfl
  rw [e1] at l2
  have hsub : ∀ x ∈ names.filter (fun (y : Str) => decide (y ≠ "all")), x ∈ names := fun x hx => (List.mem_filter.mp hx).1
  generalize names.filter (fun (y : Str) => decide (y ≠ "all")) = F at *
  have pd := hp.deal u1.deal
  have u3 := u1.then u2
  refine oSl_l (xs := F.map D.str) (by rw [l2]; rfl) fun p2 hp2 => ?_
  have e2 : cutL (F.map D.str) none (some ((k : Nat) : Int)) = (F.take k).map D.str := by
    unfold cutL HT.sIx
    simp only [List.drop_zero, Nat.sub_zero]
    rw [if_neg (by omega), Int.toNat_natCast, List.length_map, List.map_take]
    congr 1
    omega
  rw [e2]
  have pd2 := hp2.deal u3.deal
  have hl3 : (F.take k).length = k := by rw [List.length_take]; omega
  refine endsOf_i (q2.out (F.take k) p2 _ hl3 (fun x hx => hnm x (hsub x (List.mem_of_mem_take hx))) (fun x hx => hn1 x (hsub x (List.mem_of_mem_take hx))) pd2.1 pd2.2 (hp2.back u3 pd2.1 pd2.2) (u3.then (Keep.put hp2)) put_same)
end TB
end L2.DL

namespace L2.DL
open PySem PySem.Spec PyProof.Rows
local macro_rules | `(tactic| walk_at "s") => `(tactic| try simp only [mNeNil_a, mEqNil_a, nilO_ref, mRevS_a, rvsO_str, okPy_nil, List.isEmpty_nil, List.isEmpty_cons, sqAsg_a, sqDrop_a, sqPar_a, sqPar3_a, sqRet_a, sqNext_a, sqSeq_a, sNext_a, sBreak_a, sCont_a, sDrop_a, sRet_a, sRetN_a, sIf_a, sAsg_a, sPar_a, sPar3_a, mVar_a, vAt_a, mC_a, mBin_a, mTest_a, bAt_a, mAnd_a, mOr_a, mNot_a, mYes_a, mAndV_a, mOrV_a, mNotV_a, mIf_a, mNil_a, mCons_a, mTup_a, mLst_a, mCall_a, mCallK_a, mMeth_a, mSl_a, mNoPart_a, iAt_a, mPart_a, mIsi_b, tysO_some, List.any_cons, List.any_nil, Bool.or_false, Bool.false_or, Bool.or_true, Bool.true_or, Int.natCast_pos, gN_a, gTup_a, gCons_a, gNil_a, gSub_a, sFor_a, mLc_a, mDc_a, wSeq_a, sqO_tup, sqO_str, sqO_ref, wRng1_a, wRng2_b, wRng3_b, wEnum_a, enO_tup, enO_ref, mRev_a, revO_ref, List.getD_cons_zero, List.getD_cons_succ, ite_self, List.set_cons_zero, List.set_cons_succ, List.getElem?_cons_zero, List.getElem?_cons_succ, oAdd_int, oAdd_str, oAdd_tup, oAdd_ref, oSub_int, oMul_int, oDiv_int, oMod_int, oPow_int, oLt_int, oLe_int, oGt_int, oGe_int, oIs_nn, oIs_bn, oIs_in, oIs_sn, oIs_tn, oIs_rn, oIs_bb, oIs_nb, oIs_ib, oIs_sb, oIs_tb, oIs_rb, oIsi_int, oIsi_str, oIsi_bool, oIsi_tuple, oIsi_list, oIsi_dict, tyO_some, tyD_non, tyD_bl, tyD_int, tyD_str, tyD_tup, isi_facts, oEq_int, oNe_int, oEq_str, oNe_str, oSl_tup, oSl_str, oSl_ref, oLen_tup, oLen_str, oLen_ref, oAbs_int, oInt_int, oInt_bl, oMax_int, oMin_int, oTuple_tup, oTuple_ref, oList_tup, oList_str, oList_ref, oIx_tupE, oIx_ref, oAppend_ref, oPop_ref, oExtend_tupE, oSet_ref, isL_ref, isS_str, vO_some, ixO_lst, ixO_dicI, ixO_dicS, ixO_rodI, ixO_rodS, lsO_lst, rdO_lst, rdO_rol, lenO_lst, lenO_dic, lenO_rol, addO_lst, setO_lst, setO_dicI, setO_dicS, atI_zero, atI_one, atI_two, atI_end, startE, wipeE, List.map_cons, List.map_nil, List.length_cons, List.length_nil, List.replicate, List.cons_append, List.nil_append, Nat.reduceAdd, Nat.reduceSub, List.replicate_succ, List.replicate_zero, put_same, Nat.zero_le, Int.reduceLT, Int.reduceLE, Nat.reduceLT, Nat.reduceLeDiff, and_true, true_and, Bool.false_eq_true, ↓reduceIte, Bool.not_true, Bool.not_false, decide_true, decide_false, *])
local macro_rules | `(tactic| walk_at "i") => `(tactic| try simp only [mNeNil_a, mEqNil_a, nilO_ref, mRevS_a, rvsO_str, okPy_nil, List.isEmpty_nil, List.isEmpty_cons, sqIf_a, sqAsg_a, sqDrop_a, sqPar_a, sqPar3_a, sqRet_a, sqNext_a, sqSeq_a, sNext_a, sBreak_a, sCont_a, sDrop_a, sRet_a, sRetN_a, sIf_a, sAsg_a, sPar_a, sPar3_a, mVar_a, vAt_a, mC_a, mBin_a, mTest_a, bAt_a, mAnd_a, mOr_a, mNot_a, mYes_a, mAndV_a, mOrV_a, mNotV_a, mIf_a, mNil_a, mCons_a, mTup_a, mLst_a, mCall_a, mCallK_a, mMeth_a, mSl_a, mNoPart_a, iAt_a, mPart_a, mIsi_b, tysO_some, List.any_cons, List.any_nil, Bool.or_false, Bool.false_or, Bool.or_true, Bool.true_or, Int.natCast_pos, gN_a, gTup_a, gCons_a, gNil_a, gSub_a, sFor_a, mLc_a, mDc_a, wSeq_a, sqO_tup, sqO_str, sqO_ref, wRng1_a, wRng2_b, wRng3_b, wEnum_a, enO_tup, enO_ref, mRev_a, revO_ref, List.getD_cons_zero, List.getD_cons_succ, ite_self, List.set_cons_zero, List.set_cons_succ, List.getElem?_cons_zero, List.getElem?_cons_succ, oAdd_int, oAdd_str, oAdd_tup, oAdd_ref, oSub_int, oMul_int, oDiv_int, oMod_int, oPow_int, oLt_int, oLe_int, oGt_int, oGe_int, oIs_nn, oIs_bn, oIs_in, oIs_sn, oIs_tn, oIs_rn, oIs_bb, oIs_nb, oIs_ib, oIs_sb, oIs_tb, oIs_rb, oIsi_int, oIsi_str, oIsi_bool, oIsi_tuple, oIsi_list, oIsi_dict, tyO_some, tyD_non, tyD_bl, tyD_int, tyD_str, tyD_tup, isi_facts, oEq_int, oNe_int, oEq_str, oNe_str, oSl_tup, oSl_str, oSl_ref, oLen_tup, oLen_str, oLen_ref, oAbs_int, oInt_int, oInt_bl, oMax_int, oMin_int, oTuple_tup, oTuple_ref, oList_tup, oList_str, oList_ref, oIx_tupE, oIx_ref, oAppend_ref, oPop_ref, oExtend_tupE, oSet_ref, isL_ref, isS_str, vO_some, ixO_lst, ixO_dicI, ixO_dicS, ixO_rodI, ixO_rodS, lsO_lst, rdO_lst, rdO_rol, lenO_lst, lenO_dic, lenO_rol, addO_lst, setO_lst, setO_dicI, setO_dicS, atI_zero, atI_one, atI_two, atI_end, startE, wipeE, List.map_cons, List.map_nil, List.length_cons, List.length_nil, List.replicate, List.cons_append, List.nil_append, Nat.reduceAdd, Nat.reduceSub, List.replicate_succ, List.replicate_zero, put_same, Nat.zero_le, Int.reduceLT, Int.reduceLE, Nat.reduceLT, Nat.reduceLeDiff, and_true, true_and, Bool.false_eq_true, ↓reduceIte, Bool.not_true, Bool.not_false, decide_true, decide_false, *])
namespace TB
/-- a world of names -/
structure Wr where
  n : Addr
  m : Addr
  w : Addr
  sa : Addr
  na : Addr
  la : Addr
  ss : List Str
  ns : List Str
  ls : List Str
def namesOk (l : List Str) : Prop := 0 < l.length ∧ l.length ≤ 20 ∧ ∀ x ∈ l, nmOk x ∧ 1 ≤ x.length
def wdD (W : Wr) (r s d : Int) : Ob := .dic [(.inr "sorts", .ref W.sa), (.inr "names", .ref W.na), (.inr "letters", .ref W.la), (.inr "rules left", .int r), (.inr "sorts left", .int s), (.inr "doers left", .int d)]
structure Wd (st : Sto) (W : Wr) : Prop where
  deal : Deal st W.n W.m
  wn : W.w ≠ W.n ∧ W.w ≠ W.m
  at_ : ∃ r s d : Int, st W.w = some (wdD W r s d)
  s : sq st W.n W.m (.ref W.sa) (W.ss.map D.str)
  na : sq st W.n W.m (.ref W.na) (W.ns.map D.str)
  l : sq st W.n W.m (.ref W.la) (W.ls.map D.str)
  so : namesOk W.ss
  no : namesOk W.ns
  lo : namesOk W.ls
theorem Wd.up {st st' : Sto} {W : Wr} (h : Wd st W) (u : Up W.n W.m st st') : Wd st' W := by
  obtain ⟨r, s, d, e⟩ := h.at_
  exact ⟨u.deal, h.wn, ⟨r, s, d, u.keep _ _ h.wn.1 h.wn.2 trivial e⟩, sq_up h.s u, sq_up h.na u, sq_up h.l u, h.so, h.no, h.lo⟩
section
variable {W : Wr} {env : Env} {st : Sto} {Q : DK}
theorem w_ix (h1 : env[1]? = some (some (.ref W.w))) (h : Wd st W) {k : Str} {v : D} (hv : ∀ r s d : Int, valD [(.inr "sorts", .ref W.sa), (.inr "names", .ref W.na), (.inr "letters", .ref W.la), (.inr "rules left", .int r), (.inr "sorts left", .int s), (.inr "doers left", .int d)] (.inr k : Key) = some v) (q : Q v st) :
    mBin oIx (mVar 1) (mC (.str k)) env st Q := by
  obtain ⟨r, s, d, e⟩ := h.at_
  rw [mBin_a, mVar_a, h1, vAt_a, mC_a]
  exact oIx_d (k := .inr k) (by rw [e]; rfl) rfl (hv r s d) q
theorem w_names (h1 : env[1]? = some (some (.ref W.w))) (h : Wd st W) (q : Q (.ref W.na) st) : mBin oIx (mVar 1) (mC (.str "names")) env st Q := w_ix h1 h (fun _ _ _ => rfl) q
theorem w_letters (h1 : env[1]? = some (some (.ref W.w))) (h : Wd st W) (q : Q (.ref W.la) st) : mBin oIx (mVar 1) (mC (.str "letters")) env st Q := w_ix h1 h (fun _ _ _ => rfl) q
theorem w_sorts (h1 : env[1]? = some (some (.ref W.w))) (h : Wd st W) (q : Q (.ref W.sa) st) : mBin oIx (mVar 1) (mC (.str "sorts")) env st Q := w_ix h1 h (fun _ _ _ => rfl) q
/-- one of some names of the world -/
theorem of_w {k : Str} {a : Addr} {l : List Str} (h0 : env[0]? = some (some (.ref W.n))) (h : Wd st W) (hx : ∀ Q : DK, Q (.ref a) st → mBin oIx (mVar 1) (mC (.str k)) env st Q) (hs : sq st W.n W.m (.ref a) (l.map D.str)) (ho : namesOk l)
    (q : ∀ x, nmOk x ∧ 1 ≤ x.length → ∀ st', Up W.n W.m st st' → Q (.str x) st') : mCall S_law_of (mCons (mVar 0) (mCons (mBin oIx (mVar 1) (mC (.str k))) (mNil))) env st Q := by
  rw [mCall_a, mCons_a, mVar_a, h0, vAt_a, mCons_a]
  refine hx _ ?_
  rw [mNil_a]
  refine ⟨W.n, W.m, .ref a, _, rfl, h.deal, hs, by rw [List.length_map]; exact ho.1, by rw [List.length_map]; have := ho.2.1; omega, fun d st' hdm u => ?_⟩
  obtain ⟨x, hx, rfl⟩ := List.mem_map.mp hdm
  exact q x (ho.2.2 x hx) st' u
theorem of_sorts (h0 : env[0]? = some (some (.ref W.n))) (h1 : env[1]? = some (some (.ref W.w))) (h : Wd st W) (q : ∀ x, nmOk x ∧ 1 ≤ x.length → ∀ st', Up W.n W.m st st' → Q (.str x) st') : mCall S_law_of (mCons (mVar 0) (mCons (mBin oIx (mVar 1) (mC (.str "sorts"))) (mNil))) env st Q :=
  of_w h0 h (fun _ => w_sorts h1 h) h.s h.so q
theorem of_names (h0 : env[0]? = some (some (.ref W.n))) (h1 : env[1]? = some (some (.ref W.w))) (h : Wd st W) (q : ∀ x, nmOk x ∧ 1 ≤ x.length → ∀ st', Up W.n W.m st st' → Q (.str x) st') : mCall S_law_of (mCons (mVar 0) (mCons (mBin oIx (mVar 1) (mC (.str "names"))) (mNil))) env st Q :=
  of_w h0 h (fun _ => w_names h1 h) h.na h.no q
theorem of_letters (h0 : env[0]? = some (some (.ref W.n))) (h1 : env[1]? = some (some (.ref W.w))) (h : Wd st W) (q : ∀ x, nmOk x ∧ 1 ≤ x.length → ∀ st', Up W.n W.m st st' → Q (.str x) st') : mCall S_law_of (mCons (mVar 0) (mCons (mBin oIx (mVar 1) (mC (.str "letters"))) (mNil))) env st Q :=
  of_w h0 h (fun _ => w_letters h1 h) h.l h.lo q
/-- some of the letters -/
theorem some_letters {mb : ME} {b : Int} (h0 : env[0]? = some (some (.ref W.n))) (h1 : env[1]? = some (some (.ref W.w))) (h : Wd st W) (hb : 0 < b ∧ b < 1000) (hm : ∀ (st : Sto) (Q : DK), Q (.int b) st → mb env st Q)
    (q : ∀ p (l : List Str) st', l.length < b → l.length ≤ 20 → (∀ x ∈ l, nmOk x ∧ 1 ≤ x.length) → p ≠ W.n → p ≠ W.m → Nf st p → Up W.n W.m st st' → st' p = some (.lst (l.map D.str)) → Q (.ref p) st') :
    mSl (mCall S_law_mixed (mCons (mVar 0) (mCons (mBin oIx (mVar 1) (mC (.str "letters"))) (mNil)))) (mNoPart) (mPart (mCall S_law_any (mCons (mVar 0) (mCons mb (mNil))))) env st Q := by
  rw [mSl_a, mCall_a, mCons_a, mVar_a, h0, vAt_a, mCons_a]
  refine w_letters h1 h ?_
  rw [mNil_a]
  have hlo := h.lo.2.1
  refine ⟨W.n, W.m, W.la, _, rfl, h.deal, h.l, by rw [List.length_map]; omega, fun p ys st1 hp pn pm hpf u1 lp => ?_⟩
  dsimp only
  obtain ⟨l, rfl, hl⟩ : ∃ l : List Str, ys = l.map D.str ∧ l.Perm W.ls := by
    obtain ⟨l, hl, e⟩ := perm_map_inv hp W.ls rfl
    exact ⟨l, e, hl⟩
  have hll := hl.length_eq
  rw [mNoPart_a, mPart_a, mCall_a, mCons_a, mVar_a, h0, vAt_a, mCons_a]
  refine hm _ _ ?_
  rw [mNil_a]
  refine ⟨W.n, W.m, b, rfl, u1.deal, hb.1, by omega, fun v st2 v0 v1 u2 => ?_⟩
  dsimp only
  rw [iAt_a]
  have lp2 := u2.l pn pm lp
  have u3 := u1.trans u2
  refine oSl_l (xs := l.map D.str) (by rw [lp2]; rfl) fun p2 hp2 => ?_
  have e2 : cutL (l.map D.str) none (some v) = (l.take v.toNat).map D.str := by
    unfold cutL HT.sIx
    simp only [List.drop_zero, Nat.sub_zero]
    rw [if_neg (by omega), List.length_map, List.map_take]
    rw [Nat.min_def]
    split
    · rfl
    · rw [List.take_of_length_le (by rw [List.length_map]; exact Nat.le_refl _), List.take_of_length_le (by rw [List.length_map]; omega)]
  rw [e2]
  have pd := hp2.deal u3.deal
  refine q p2 (l.take v.toNat) _ ?_ ?_ (fun x hx => h.lo.2.2 x (hl.mem_iff.mp (List.mem_of_mem_take hx))) pd.1 pd.2 (hp2.back u3 pd.1 pd.2) (u3.then (Keep.put hp2)) put_same
  · rw [List.length_take]; omega
  · rw [List.length_take]; omega
end
def S_law_some_term : DSp := fun vs st Q => ∃ (n m a b : Addr) (ns ls : List Str) (k : Nat), vs = [.ref n, .ref a, .ref b, .int k] ∧ Deal st n m ∧ sq st n m (.ref a) (ns.map D.str) ∧ sq st n m (.ref b) (ls.map D.str) ∧ namesOk ns ∧ namesOk ls ∧ 1 ≤ k ∧ k ≤ 10 ∧
  ∀ (t : Term) st', t.length ≤ k → (∀ s ∈ t, nmOk s.1 ∧ -1 ≤ s.2) → Up n m st st' → Q (termD t) st'
/-- _law_some_term(deal, names, letters, most): 0 deal 1 names 2 letters 3 most 4 found 5 due 6 turn 7 many -/
def t_law_some_term : MS := sSeq (sPar 4 5 (mCons (mLst (mNil)) (mCons (mC (.int 1)) (mNil))))
    (sSeq (sFor (wRng1 (mVar 3)) (gN 6) (sIf (mTest (mBin oGt (mVar 5) (mC (.int 0)))) (sSeq (sAsg (mCall oMin (mCons (mCall S_law_of (mCons (mVar 0) (mCons (mLst (mCons (mC (.int 0)) (mCons (mC (.int 0)) (mCons (mC (.int 1)) (mCons (mC (.int 1)) (mCons (mC (.int 2)) (mCons (mC (.int 3)) (mNil)))))))) (mNil)))) (mCons (mBin oSub (mBin oSub (mVar 3) (mCall oLen (mCons (mVar 4) (mNil)))) (mVar 5)) (mNil)))) (gN 7))
    (sSeq (sIf (mAnd (mTest (mBin oEq (mVar 7) (mC (.int 0)))) (mAnd (mTest (mNeNil (mVar 2))) (mTest (mBin oEq (mCall S_law_any (mCons (mVar 0) (mCons (mC (.int 2)) (mNil)))) (mC (.int 0)))))) (sDrop (mMeth isL oAppend (mVar 4) (mCons (mTup (mCons (mCall S_law_of (mCons (mVar 0) (mCons (mVar 2) (mNil)))) (mCons (mBin oSub (mC (.int 0)) (mC (.int 1))) (mNil)))) (mNil)))) (sDrop (mMeth isL oAppend (mVar 4) (mCons (mTup (mCons (mCall S_law_of (mCons (mVar 0) (mCons (mVar 1) (mNil)))) (mCons (mVar 7) (mNil)))) (mNil)))))
    (sAsg (mBin oSub (mBin oAdd (mVar 5) (mVar 7)) (mC (.int 1))) (gN 5)))) (sNext)))
    (sRet (mCall oTuple (mCons (mVar 4) (mNil)))))
theorem kp_law_some_term : Keeps 4 8 S_law_some_term t_law_some_term := by
  refine ⟨fun ds st Q ⟨n, m, a, b, ns, ls, k, e, _⟩ => by rw [e]; rfl, fun ds st Q ⟨n, m, a, b, ns, ls, k, e, hd, ha, hb, hns, hls, hk1, hk, q⟩ => ?_⟩
  subst e
  have z0 : 0 ≤ sizeLine := by decide
  have z2 : [D.non, D.non].length ≤ sizeLine := by decide
  have q2 := Hdn.mk q
  clear q
  unfold t_law_some_term
  refine sSeq_t fun T hT => ?_
  walk_at "s"
  intro p hp
  have pd := hp.deal hd
  have lp : put st p (.lst []) p = some (.lst (([] : Term).map signD)) := put_same
  have u0 := Up.of hd (Keep.put (o := .lst []) hp)
  generalize put st p (.lst []) = st1 at *
  subst hT
  refine sSeq_i (fun env st' => ∃ e5 e6 e7, ∃ t : Term, env = [some (.ref n), some (.ref a), some (.ref b), some (.int (k : Nat)), some (.ref p), e5, e6, e7] ∧ t.length ≤ k ∧ (∀ s ∈ t, nmOk s.1 ∧ -1 ≤ s.2) ∧ Up n m st st' ∧ st' p = some (.lst (t.map signD))) (fun nx hnx => ?_) ?_
  · walk_at "s"
    refine ⟨by omega, fun i env st' => ∃ e6 e7, ∃ (t : Term) (due : Int), env = [some (.ref n), some (.ref a), some (.ref b), some (.int (k : Nat)), some (.ref p), some (.int due), e6, e7] ∧ 0 ≤ due ∧ t.length + due ≤ k ∧ (∀ s ∈ t, nmOk s.1 ∧ -1 ≤ s.2) ∧ Up n m st st' ∧ st' p = some (.lst (t.map signD)), ⟨none, none, [], 1, rfl, by omega, by simp; omega, fun s hs => absurd hs List.not_mem_nil, u0, lp⟩, fun _ _ _ _ _ => trivial, ?_, ?_⟩
    · rintro i x env st2 hx ⟨e6, e7, t, due, rfl, hdue, htd, hts, u2, lp2⟩
      obtain ⟨hi, rfl⟩ := rangeD_get hx
      clear hnx u0 lp hx
      rw [gN_a]
      simp only [List.set_cons_zero, List.set_cons_succ]
      rw [sIf_a, mTest_a, mBin_a]
      simp only [mVar_a, vAt_a, List.getElem?_cons_zero, List.getElem?_cons_succ, mC_a, oGt_int, bAt_a]
      by_cases c0 : (0 : Int) < due
      · rw [if_pos (by simpa using c0)]
        -- many
        refine sSeq_i (fun env st' => ∃ mn : Int, env = [some (.ref n), some (.ref a), some (.ref b), some (.int (k : Nat)), some (.ref p), some (.int due), some (.int (0 + (i : Int))), some (.int mn)] ∧ 0 ≤ mn ∧ t.length + due + mn ≤ k ∧ Up n m st st' ∧ st' p = some (.lst (t.map signD))) (fun nx1 hnx1 => ?_) ?_
        · rw [sAsg_a, mCall_a, mCons_a]
          refine of_c (ds := [.int 0, .int 0, .int 1, .int 1, .int 2, .int 3]) rfl u2.deal (fun Q hQ => hQ) (by simp) fun d hdm st3 u3 => ?_
          obtain ⟨v, rfl, hv⟩ : ∃ v : Int, d = .int v ∧ 0 ≤ v := by
            simp only [List.mem_cons, List.not_mem_nil, or_false] at hdm
            rcases hdm with rfl | rfl | rfl | rfl | rfl | rfl <;> exact ⟨_, rfl, by decide⟩
          have lp3 := u3.l pd.1 pd.2 lp2
          rw [mCons_a, mBin_a, mBin_a]
          simp only [mVar_a, vAt_a, List.getElem?_cons_zero, List.getElem?_cons_succ]
          rw [mCall_a, mCons_a, mVar_a]
          simp only [vAt_a, List.getElem?_cons_zero, List.getElem?_cons_succ]
          rw [mNil_a]
          refine oLen_l (xs := t.map signD) (by rw [lp3]; rfl) ?_
          rw [oSub_int, oSub_int, mNil_a, oMin_int, gN_a, List.length_map]
          refine hnx1 _ _ ⟨_, rfl, ?_, ?_, u2.trans u3, lp3⟩
          · split <;> omega
          · split <;> omega
        · rintro env st3 ⟨mn, rfl, hmn, htm, u3, lp3⟩
          have hz : (t.map signD).length < sizeLine := by rw [List.length_map, szL]; omega
          clear u2 lp2 htd
          refine sSeq_i (fun env st' => ∃ s : Sign, env = [some (.ref n), some (.ref a), some (.ref b), some (.int (k : Nat)), some (.ref p), some (.int due), some (.int (0 + (i : Int))), some (.int mn)] ∧ (nmOk s.1 ∧ -1 ≤ s.2) ∧ Up n m st st' ∧ st' p = some (.lst ((t ++ [s]).map signD))) (fun nx1 hnx1 => ?_) ?_
          · have app : ∀ (j : Nat) (av : Addr) (l : List Str) (me : ME) (i0 : Int) (st4 : Sto), [some (D.ref n), some (.ref a), some (.ref b), some (.int (k : Nat)), some (.ref p), some (.int due), some (.int (0 + (i : Int))), some (.int mn)][j]? = some (some (.ref av)) → sq st4 n m (.ref av) (l.map D.str) → namesOk l → -1 ≤ i0 → (∀ (st : Sto) (Q : DK), Q (.int i0) st → me [some (.ref n), some (.ref a), some (.ref b), some (.int (k : Nat)), some (.ref p), some (.int due), some (.int (0 + (i : Int))), some (.int mn)] st Q) → Up n m st st4 → st4 p = some (.lst (t.map signD)) →
                sDrop (mMeth isL oAppend (mVar 4) (mCons (mTup (mCons (mCall S_law_of (mCons (mVar 0) (mCons (mVar j) (mNil)))) (mCons me (mNil)))) (mNil))) { nx := nx1, rt := (endsOf Q).rt, bk := nx, ct := nx1 } [some (.ref n), some (.ref a), some (.ref b), some (.int (k : Nat)), some (.ref p), some (.int due), some (.int (0 + (i : Int))), some (.int mn)] st4 := by
              intro j av l me i0 st4 hj hsq hl hi0 hme u4 lp4
              rw [sDrop_a, mMeth_a]
              simp only [mVar_a, vAt_a, List.getElem?_cons_zero, List.getElem?_cons_succ]
              refine ⟨⟨p, _, rfl, by rw [lp4]; rfl⟩, ?_⟩
              rw [mCons_a, mTup_a, mCons_a]
              refine of_v rfl hj u4.deal hsq (by rw [List.length_map]; exact ⟨hl.1, by have := hl.2.1; omega⟩) fun d hdm st5 u5 => ?_
              obtain ⟨x, hx, rfl⟩ := List.mem_map.mp hdm
              rw [mCons_a]
              refine hme _ _ ?_
              rw [mNil_a]
              have lp5 := u5.l pd.1 pd.2 lp4
              refine ⟨z2, ?_⟩
              rw [mNil_a]
              refine oAppend_l lp5 hz (hnx1 _ _ ⟨(x, i0), rfl, ⟨(hl.2.2 x hx).1, hi0⟩, (u4.trans u5).put hp pd.1 pd.2, ?_⟩)
              rw [put_same, List.map_append]
              rfl
            have nm : ∀ st4, Up n m st st4 → st4 p = some (.lst (t.map signD)) → sDrop (mMeth isL oAppend (mVar 4) (mCons (mTup (mCons (mCall S_law_of (mCons (mVar 0) (mCons (mVar 1) (mNil)))) (mCons (mVar 7) (mNil)))) (mNil))) { nx := nx1, rt := (endsOf Q).rt, bk := nx, ct := nx1 } [some (.ref n), some (.ref a), some (.ref b), some (.int (k : Nat)), some (.ref p), some (.int due), some (.int (0 + (i : Int))), some (.int mn)] st4 := fun st4 u4 lp4 =>
              app 1 a ns (mVar 7) mn st4 rfl (sq_up ha u4) hns (by omega) (fun st Q hQ => by rw [mVar_a]; exact hQ) u4 lp4
            rw [sIf_a, mAnd_a, mTest_a, mBin_a]
            simp only [mVar_a, vAt_a, List.getElem?_cons_zero, List.getElem?_cons_succ, mC_a, oEq_int, bAt_a]
            by_cases c1 : mn = 0
            · rw [if_pos (by simpa using c1), mAnd_a, mTest_a, mNeNil_a]
              simp only [mVar_a, vAt_a, List.getElem?_cons_zero, List.getElem?_cons_succ]
              have hb3 := (sq_up hb u3).2.2
              rw [nilO_ref, hb3, rdO_lst]
              refine ⟨okPy_pd (k := 0) (fun z hz => by
                obtain ⟨y, hy, rfl⟩ := List.mem_map.mp hz
                exact .nm (hls.2.2 y hy).1) (by omega), ?_⟩
              have e1 : (ls.map D.str).isEmpty = false := by
                cases ls with
                | nil => exact absurd hls.1 (by simp)
                | cons x l => rfl
              rw [e1, bAt_a, if_pos (by simp), mTest_a, mBin_a]
              refine any_c rfl u3.deal (by omega) fun v v0 v1 st4 u4 => ?_
              have lp4 := u4.l pd.1 pd.2 lp3
              rw [mC_a, oEq_int, bAt_a]
              by_cases c2 : v = 0
              · rw [if_pos (by simpa using c2)]
                refine app 2 b ls (mBin oSub (mC (.int 0)) (mC (.int 1))) (-1) st4 rfl (sq_up hb (u3.trans u4)) hls (by omega) (fun st Q hQ => ?_) (u3.trans u4) lp4
                rw [mBin_a, mC_a, mC_a, oSub_int]
                exact hQ
              · rw [if_neg (by simpa using c2)]
                exact nm st4 (u3.trans u4) lp4
            · rw [if_neg (by simpa using c1)]
              exact nm st3 u3 lp3
          · rintro env st4 ⟨s, rfl, hs, u4, lp4⟩
            rw [sAsg_a, mBin_a, mBin_a]
            simp only [mVar_a, vAt_a, List.getElem?_cons_zero, List.getElem?_cons_succ, mC_a, oAdd_int, oSub_int, gN_a]
            refine ⟨_, _, t ++ [s], due + mn - 1, rfl, by omega, ?_, fun y hy => ?_, u4, lp4⟩
            · rw [List.length_append]
              simp only [List.length_cons, List.length_nil]
              omega
            · rcases List.mem_append.mp hy with hy | hy
              · exact hts y hy
              · rw [List.mem_singleton.mp hy]; exact hs
      · rw [if_neg (by simpa using c0), sNext_a]
        exact ⟨_, _, t, due, rfl, hdue, htd, hts, u2, lp2⟩
    · rintro env st2 ⟨e6, e7, t, due, rfl, hdue, htd, hts, u2, lp2⟩
      exact hnx _ _ ⟨_, _, _, t, rfl, by omega, hts, u2, lp2⟩
  · rintro env st2 ⟨e5, e6, e7, t, rfl, htk, hts, u2, lp2⟩
    have hz : (t.map signD).length ≤ sizeLine := by rw [List.length_map, szL]; omega
    walk_at "s"
    exact endsOf_i (q2.out t _ htk hts u2)
end TB
end L2.DL

namespace L2.DL
open PySem PySem.Spec PyProof.Rows
local macro_rules | `(tactic| walk_at "s") => `(tactic| try simp only [mNeNil_a, mEqNil_a, nilO_ref, mRevS_a, rvsO_str, okPy_nil, List.isEmpty_nil, List.isEmpty_cons, sqAsg_a, sqDrop_a, sqPar_a, sqPar3_a, sqRet_a, sqNext_a, sqSeq_a, sNext_a, sBreak_a, sCont_a, sDrop_a, sRet_a, sRetN_a, sIf_a, sAsg_a, sPar_a, sPar3_a, mVar_a, vAt_a, mC_a, mBin_a, mTest_a, bAt_a, mAnd_a, mOr_a, mNot_a, mYes_a, mAndV_a, mOrV_a, mNotV_a, mIf_a, mNil_a, mCons_a, mTup_a, mLst_a, mCall_a, mCallK_a, mMeth_a, mSl_a, mNoPart_a, iAt_a, mPart_a, mIsi_b, tysO_some, List.any_cons, List.any_nil, Bool.or_false, Bool.false_or, Bool.or_true, Bool.true_or, Int.natCast_pos, gN_a, gTup_a, gCons_a, gNil_a, gSub_a, sFor_a, mLc_a, mDc_a, wSeq_a, sqO_tup, sqO_str, sqO_ref, wRng1_a, wRng2_b, wRng3_b, wEnum_a, enO_tup, enO_ref, mRev_a, revO_ref, List.getD_cons_zero, List.getD_cons_succ, ite_self, List.set_cons_zero, List.set_cons_succ, List.getElem?_cons_zero, List.getElem?_cons_succ, oAdd_int, oAdd_str, oAdd_tup, oAdd_ref, oSub_int, oMul_int, oDiv_int, oMod_int, oPow_int, oLt_int, oLe_int, oGt_int, oGe_int, oIs_nn, oIs_bn, oIs_in, oIs_sn, oIs_tn, oIs_rn, oIs_bb, oIs_nb, oIs_ib, oIs_sb, oIs_tb, oIs_rb, oIsi_int, oIsi_str, oIsi_bool, oIsi_tuple, oIsi_list, oIsi_dict, tyO_some, tyD_non, tyD_bl, tyD_int, tyD_str, tyD_tup, isi_facts, oEq_int, oNe_int, oEq_str, oNe_str, oSl_tup, oSl_str, oSl_ref, oLen_tup, oLen_str, oLen_ref, oAbs_int, oInt_int, oInt_bl, oMax_int, oMin_int, oTuple_tup, oTuple_ref, oList_tup, oList_str, oList_ref, oIx_tupE, oIx_ref, oAppend_ref, oPop_ref, oExtend_tupE, oSet_ref, isL_ref, isS_str, vO_some, ixO_lst, ixO_dicI, ixO_dicS, ixO_rodI, ixO_rodS, lsO_lst, rdO_lst, rdO_rol, lenO_lst, lenO_dic, lenO_rol, addO_lst, setO_lst, setO_dicI, setO_dicS, atI_zero, atI_one, atI_two, atI_end, startE, wipeE, List.map_cons, List.map_nil, List.length_cons, List.length_nil, List.replicate, List.cons_append, List.nil_append, Nat.reduceAdd, Nat.reduceSub, List.replicate_succ, List.replicate_zero, put_same, Nat.zero_le, Int.reduceLT, Int.reduceLE, Nat.reduceLT, Nat.reduceLeDiff, and_true, true_and, Bool.false_eq_true, ↓reduceIte, Bool.not_true, Bool.not_false, decide_true, decide_false, *])
local macro_rules | `(tactic| walk_at "i") => `(tactic| try simp only [mNeNil_a, mEqNil_a, nilO_ref, mRevS_a, rvsO_str, okPy_nil, List.isEmpty_nil, List.isEmpty_cons, sqIf_a, sqAsg_a, sqDrop_a, sqPar_a, sqPar3_a, sqRet_a, sqNext_a, sqSeq_a, sNext_a, sBreak_a, sCont_a, sDrop_a, sRet_a, sRetN_a, sIf_a, sAsg_a, sPar_a, sPar3_a, mVar_a, vAt_a, mC_a, mBin_a, mTest_a, bAt_a, mAnd_a, mOr_a, mNot_a, mYes_a, mAndV_a, mOrV_a, mNotV_a, mIf_a, mNil_a, mCons_a, mTup_a, mLst_a, mCall_a, mCallK_a, mMeth_a, mSl_a, mNoPart_a, iAt_a, mPart_a, mIsi_b, tysO_some, List.any_cons, List.any_nil, Bool.or_false, Bool.false_or, Bool.or_true, Bool.true_or, Int.natCast_pos, gN_a, gTup_a, gCons_a, gNil_a, gSub_a, sFor_a, mLc_a, mDc_a, wSeq_a, sqO_tup, sqO_str, sqO_ref, wRng1_a, wRng2_b, wRng3_b, wEnum_a, enO_tup, enO_ref, mRev_a, revO_ref, List.getD_cons_zero, List.getD_cons_succ, ite_self, List.set_cons_zero, List.set_cons_succ, List.getElem?_cons_zero, List.getElem?_cons_succ, oAdd_int, oAdd_str, oAdd_tup, oAdd_ref, oSub_int, oMul_int, oDiv_int, oMod_int, oPow_int, oLt_int, oLe_int, oGt_int, oGe_int, oIs_nn, oIs_bn, oIs_in, oIs_sn, oIs_tn, oIs_rn, oIs_bb, oIs_nb, oIs_ib, oIs_sb, oIs_tb, oIs_rb, oIsi_int, oIsi_str, oIsi_bool, oIsi_tuple, oIsi_list, oIsi_dict, tyO_some, tyD_non, tyD_bl, tyD_int, tyD_str, tyD_tup, isi_facts, oEq_int, oNe_int, oEq_str, oNe_str, oSl_tup, oSl_str, oSl_ref, oLen_tup, oLen_str, oLen_ref, oAbs_int, oInt_int, oInt_bl, oMax_int, oMin_int, oTuple_tup, oTuple_ref, oList_tup, oList_str, oList_ref, oIx_tupE, oIx_ref, oAppend_ref, oPop_ref, oExtend_tupE, oSet_ref, isL_ref, isS_str, vO_some, ixO_lst, ixO_dicI, ixO_dicS, ixO_rodI, ixO_rodS, lsO_lst, rdO_lst, rdO_rol, lenO_lst, lenO_dic, lenO_rol, addO_lst, setO_lst, setO_dicI, setO_dicS, atI_zero, atI_one, atI_two, atI_end, startE, wipeE, List.map_cons, List.map_nil, List.length_cons, List.length_nil, List.replicate, List.cons_append, List.nil_append, Nat.reduceAdd, Nat.reduceSub, List.replicate_succ, List.replicate_zero, put_same, Nat.zero_le, Int.reduceLT, Int.reduceLE, Nat.reduceLT, Nat.reduceLeDiff, and_true, true_and, Bool.false_eq_true, ↓reduceIte, Bool.not_true, Bool.not_false, decide_true, decide_false, *])
namespace TB
def S_law_some_kind : DSp := fun vs st Q => ∃ W : Wr, vs = [.ref W.n, .ref W.w] ∧ Wd st W ∧ ∀ d st', Pd 6 d → Up W.n W.m st st' → Q d st'
/-- _law_some_kind(deal, world): 0 deal 1 world 2 terms 3 turn -/
def t_law_some_kind : MS := sSeq (sAsg (mLc (wRng1 (mCall S_law_of (mCons (mVar 0) (mCons (mLst (mCons (mC (.int 0)) (mCons (mC (.int 0)) (mCons (mC (.int 1)) (mCons (mC (.int 2)) (mNil)))))) (mNil))))) (gN 3) (mYes) (mCall S_law_some_term (mCons (mVar 0) (mCons (mBin oIx (mVar 1) (mC (.str "names"))) (mCons (mBin oIx (mVar 1) (mC (.str "letters"))) (mCons (mC (.int 3)) (mNil)))))) [3]) (gN 2))
    (sRet (mTup (mCons (mCall S_law_of (mCons (mVar 0) (mCons (mBin oIx (mVar 1) (mC (.str "sorts"))) (mNil)))) (mCons (mCall oTuple (mCons (mVar 2) (mNil))) (mNil)))))
/-- what is drawn for each item -/
theorem Fm.all {F : D → Option D → Prop} {P : D → Prop} {xs ys : List D} (h : Fm F xs ys) (k : ∀ x y, F x (some y) → P y) : ∀ y ∈ ys, P y := by
  induction h with
  | nil => exact fun y hy => by cases hy
  | yes a _ ih =>
    intro y hy
    rcases List.mem_cons.mp hy with rfl | hy
    · exact k _ _ a
    · exact ih y hy
  | no a _ ih => exact ih
theorem kp_law_some_kind : Keeps 2 4 S_law_some_kind t_law_some_kind := by
  refine ⟨fun ds st Q ⟨W, e, _⟩ => by rw [e]; rfl, fun ds st Q ⟨W, e, hW, q⟩ => ?_⟩
  subst e
  have z2 : [D.non, D.non].length ≤ sizeLine := by decide
  have q2 := Hdn.mk q
  clear q
  unfold t_law_some_kind
  refine sSeq_i (fun env st' => ∃ p e3, ∃ ts : List D, env = [some (.ref W.n), some (.ref W.w), some (.ref p), e3] ∧ ts.length ≤ 2 ∧ (∀ d ∈ ts, Pd 2 d) ∧ (p ≠ W.n ∧ p ≠ W.m) ∧ Up W.n W.m st st' ∧ st' p = some (.lst ts)) (fun nx hnx => ?_) ?_
  · rw [sAsg_a]
    have lc : ∀ (v : Int) (st1 : Sto) (Q : DK), 0 ≤ v → v ≤ 2 → Up W.n W.m st st1 → (∀ p (ts : List D) st', ts.length ≤ 2 → (∀ d ∈ ts, Pd 2 d) → (p ≠ W.n ∧ p ≠ W.m) → Up W.n W.m st st' → st' p = some (.lst ts) → Q (.ref p) st') →
        lcO (rangeD 0 v.toNat) (fun _ => True) (gN 3) mYes (mCall S_law_some_term (mCons (mVar 0) (mCons (mBin oIx (mVar 1) (mC (.str "names"))) (mCons (mBin oIx (mVar 1) (mC (.str "letters"))) (mCons (mC (.int 3)) (mNil)))))) [3] [some (.ref W.n), some (.ref W.w), none, none] st1 Q := by
      intro v st1 Q v0 v1 u1 q
      refine lc_up (n := W.n) (m := W.m) (fun _ o => ∃ d, o = some d ∧ Pd 2 d) u1.deal (fun _ _ => trivial) (by rw [rangeD_len, szL]; omega) (fun y hy st2 u2 P N hP hN => ?_) fun p ys st2 hp hF u2 lp => ?_
      · rw [gN_a, mYes_a, if_pos rfl]
        have hW2 := hW.up (u1.trans u2)
        rw [mCall_a, mCons_a, mVar_a]
        simp only [wipeE, List.foldl_cons, List.foldl_nil, List.set_cons_zero, List.set_cons_succ, vAt_a, List.getElem?_cons_zero, List.getElem?_cons_succ]
        rw [mCons_a]
        refine w_names rfl hW2 ?_
        rw [mCons_a]
        refine w_letters rfl hW2 ?_
        rw [mCons_a, mC_a, mNil_a]
        refine ⟨W.n, W.m, W.na, W.la, W.ns, W.ls, 3, rfl, hW2.deal, hW2.na, hW2.l, hW2.no, hW2.lo, by omega, by omega, fun t st3 htl hts u3 => ?_⟩
        exact hP _ _ ⟨_, rfl, .term fun s hs => (hts s hs).1⟩ u3
      · refine q p ys st2 ?_ (Fm.all hF fun x y ⟨d, e, h⟩ => by cases e; exact h) (hp.deal u1.deal) (u1.trans u2) lp
        have := hF.len
        rw [rangeD_len] at this
        omega
    rw [mLc_a, wRng1_a]
    refine of_c (ds := [.int 0, .int 0, .int 1, .int 2]) rfl hW.deal (fun Q hQ => hQ) (by simp) fun d hdm st1 u1 => ?_
    obtain ⟨v, rfl, hv, hv2⟩ : ∃ v : Int, d = .int v ∧ 0 ≤ v ∧ v ≤ 2 := by
      simp only [List.mem_cons, List.not_mem_nil, or_false] at hdm
      rcases hdm with rfl | rfl | rfl | rfl <;> exact ⟨_, rfl, by decide, by decide⟩
    rw [iAt_a]
    refine ⟨by omega, lc v st1 _ hv hv2 u1 fun p ts st' h1 h2 h0 h3 h4 => ?_⟩
    rw [gN_a]
    exact hnx _ _ ⟨p, _, ts, rfl, h1, h2, h0, h3, h4⟩
  · rintro env st1 ⟨p, e3, ts, rfl, htl, hts, pn, u1, lp⟩
    have hW1 := hW.up u1
    rw [sRet_a, mTup_a, mCons_a]
    refine of_sorts rfl rfl hW1 fun x hx st2 u2 => ?_
    have lp2 : rdL (st2 p) = some ts := by rw [u2.keep p (.lst ts) pn.1 pn.2 trivial lp]; rfl
    rw [mCons_a, mCall_a, mCons_a, mVar_a]
    simp only [vAt_a, List.getElem?_cons_zero, List.getElem?_cons_succ]
    rw [mNil_a]
    refine oTuple_l lp2 ?_
    rw [mNil_a]
    refine ⟨z2, endsOf_i (q2.out _ _ (.tup fun y hy => ?_) (u1.trans u2))⟩
    rcases List.mem_cons.mp hy with rfl | hy
    · exact .nm hx.1
    · rw [List.mem_singleton.mp hy]
      exact .mono (.tup (k := 2) hts) (by omega)
def S_law_some_pairs : DSp := fun vs st Q => ∃ (W : Wr) (k : Int), vs = [.ref W.n, .ref W.w, .int k] ∧ Wd st W ∧ 0 ≤ k ∧ k ≤ 10 ∧ ∀ ds st', ds.length ≤ 20 → Pd 8 (.tup ds) → Up W.n W.m st st' → Q (.tup ds) st'
/-- _law_some_pairs(deal, world, many): 0 deal 1 world 2 many 3 name -/
def t_law_some_pairs : MS := sRet (mCall oTuple (mCons (mLc (wSeq (mSl (mCall S_law_mixed (mCons (mVar 0) (mCons (mBin oIx (mVar 1) (mC (.str "letters"))) (mNil)))) (mNoPart) (mPart (mCall S_law_any (mCons (mVar 0) (mCons (mBin oAdd (mVar 2) (mC (.int 1))) (mNil))))))) (gN 3) (mYes) (mTup (mCons (mVar 3) (mCons (mCall S_law_some_kind (mCons (mVar 0) (mCons (mVar 1) (mNil)))) (mNil)))) [3]) (mNil)))
theorem kp_law_some_pairs : Keeps 3 4 S_law_some_pairs t_law_some_pairs := by
  refine ⟨fun ds st Q ⟨W, k, e, _⟩ => by rw [e]; rfl, fun ds st Q ⟨W, k, e, hW, hk0, hk, q⟩ => ?_⟩
  subst e
  have z2 : [D.non, D.non].length ≤ sizeLine := by decide
  have q2 := Hdn.mk q
  clear q
  unfold t_law_some_pairs
  have e0 : startE 4 [D.ref W.n, .ref W.w, .int k] = [some (.ref W.n), some (.ref W.w), some (.int k), none] := rfl
  rw [sRet_a, mCall_a, mCons_a, mLc_a, e0, wSeq_a]
  refine some_letters (b := k + 1) rfl rfl hW (by omega) (fun st Q hQ => ?_) fun p l st1 hl1 hl2 hl pn pm hp u1 lp => ?_
  · rw [mBin_a, mVar_a]
    simp only [vAt_a, List.getElem?_cons_zero, List.getElem?_cons_succ]
    rw [mC_a, oAdd_int]
    exact hQ
  rw [sqO_ref, lp, rdO_lst]
  refine lc_up (n := W.n) (m := W.m) (fun _ o => ∃ d, o = some d ∧ Pd 7 d) u1.deal (fun st' u => by show rdL (st' p) = _; rw [u.l pn pm lp]; rfl) (by rw [List.length_map, szL]; omega) (fun y hy st2 u2 P N hP hN => ?_) fun p2 ys st2 hp2 hF u2 l2 => ?_
  · obtain ⟨x, hx, rfl⟩ := List.mem_map.mp hy
    rw [gN_a, mYes_a, if_pos rfl]
    have hW2 := hW.up (u1.trans u2)
    rw [mTup_a, mCons_a, mVar_a]
    simp only [wipeE, List.foldl_cons, List.foldl_nil, List.set_cons_zero, List.set_cons_succ, vAt_a, List.getElem?_cons_zero, List.getElem?_cons_succ]
    rw [mCons_a, mCall_a, mCons_a, mVar_a]
    simp only [vAt_a, List.getElem?_cons_zero, List.getElem?_cons_succ]
    rw [mCons_a, mVar_a]
    simp only [vAt_a, List.getElem?_cons_zero, List.getElem?_cons_succ]
    rw [mNil_a]
    refine ⟨W, rfl, hW2, fun d st3 hd u3 => ?_⟩
    dsimp only
    rw [mNil_a]
    refine ⟨z2, hP _ _ ⟨_, rfl, .tup (k := 6) fun y hy => ?_⟩ u3⟩
    rcases List.mem_cons.mp hy with rfl | hy
    · exact .nm (hl x hx).1
    · rw [List.mem_singleton.mp hy]; exact hd
  · rw [mNil_a]
    have hlen := hF.len
    rw [List.length_map] at hlen
    refine oTuple_l (by rw [l2]; rfl) (endsOf_i (q2.out ys _ (by omega) (.tup (k := 7) (Fm.all hF fun x y ⟨d, e, h⟩ => by cases e; exact h)) (u1.trans u2)))
def S_law_some_filling : DSp := fun vs st Q => ∃ W : Wr, vs = [.ref W.n, .ref W.w] ∧ Wd st W ∧ ∀ d st', Pd 4 d → Up W.n W.m st st' → Q d st'
/-- _law_some_filling(deal, world): 0 deal 1 world 2 names 3 name -/
def t_law_some_filling : MS := sSeq (sAsg (mCall oSorted (mCons (mSl (mCall S_law_mixed (mCons (mVar 0) (mCons (mBin oIx (mVar 1) (mC (.str "letters"))) (mNil)))) (mNoPart) (mPart (mCall S_law_any (mCons (mVar 0) (mCons (mC (.int 3)) (mNil)))))) (mNil))) (gN 2))
    (sRet (mCall oTuple (mCons (mLc (wSeq (mVar 2)) (gN 3) (mYes) (mTup (mCons (mVar 3) (mCons (mCall S_law_some_term (mCons (mVar 0) (mCons (mBin oIx (mVar 1) (mC (.str "names"))) (mCons (mBin oIx (mVar 1) (mC (.str "letters"))) (mCons (mC (.int 4)) (mNil)))))) (mNil)))) [3]) (mNil))))
theorem kp_law_some_filling : Keeps 2 4 S_law_some_filling t_law_some_filling := by
  refine ⟨fun ds st Q ⟨W, e, _⟩ => by rw [e]; rfl, fun ds st Q ⟨W, e, hW, q⟩ => ?_⟩
  subst e
  have z2 : [D.non, D.non].length ≤ sizeLine := by decide
  have q2 := Hdn.mk q
  clear q
  unfold t_law_some_filling
  have e0 : startE 4 [D.ref W.n, .ref W.w] = [some (.ref W.n), some (.ref W.w), none, none] := rfl
  rw [e0, sSeq_a, sAsg_a, mCall_a, mCons_a]
  refine some_letters (b := 3) rfl rfl hW (by omega) (fun st Q hQ => hQ) fun p l st1 hl1 hl2 hl pn pm hp u1 lp => ?_
  rw [mNil_a]
  refine .inr (.inl ⟨l, by rw [lp]; rfl, by omega, fun p2 hp2 => ?_⟩)
  dsimp only
  rw [gN_a]
  simp only [List.set_cons_zero, List.set_cons_succ]
  have pd := hp2.deal u1.deal
  have u2 := u1.then (Keep.put (o := .lst ((sortBy id l).map D.str)) hp2)
  have lp2 : put st1 p2 (.lst ((sortBy id l).map D.str)) p2 = some (.lst ((sortBy id l).map D.str)) := put_same
  have hS : ∀ x ∈ sortBy id l, nmOk x ∧ 1 ≤ x.length := fun x hx => hl x ((sortBy_perm id l).mem_iff.mp hx)
  have hSl : (sortBy id l).length = l.length := (sortBy_perm id l).length_eq
  generalize put st1 p2 (.lst ((sortBy id l).map D.str)) = st2 at *
  generalize sortBy id l = S at *
  rw [sRet_a, mCall_a, mCons_a, mLc_a, wSeq_a, mVar_a]
  simp only [vAt_a, List.getElem?_cons_zero, List.getElem?_cons_succ]
  rw [sqO_ref, lp2, rdO_lst]
  refine lc_up (n := W.n) (m := W.m) (fun _ o => ∃ d, o = some d ∧ Pd 3 d) u2.deal (fun st' u => by show rdL (st' p2) = _; rw [u.l pd.1 pd.2 lp2]; rfl) (by rw [List.length_map, szL]; omega) (fun y hy st3 u3 P N hP hN => ?_) fun p3 ys st3 hp3 hF u3 l3 => ?_
  · obtain ⟨x, hx, rfl⟩ := List.mem_map.mp hy
    rw [gN_a, mYes_a, if_pos rfl]
    have hW2 := hW.up (u2.trans u3)
    rw [mTup_a, mCons_a, mVar_a]
    simp only [wipeE, List.foldl_cons, List.foldl_nil, List.set_cons_zero, List.set_cons_succ, vAt_a, List.getElem?_cons_zero, List.getElem?_cons_succ]
    rw [mCons_a, mCall_a, mCons_a, mVar_a]
    simp only [vAt_a, List.getElem?_cons_zero, List.getElem?_cons_succ]
    rw [mCons_a]
    refine w_names rfl hW2 ?_
    rw [mCons_a]
    refine w_letters rfl hW2 ?_
    rw [mCons_a, mC_a, mNil_a]
    refine ⟨W.n, W.m, W.na, W.la, W.ns, W.ls, 4, rfl, hW2.deal, hW2.na, hW2.l, hW2.no, hW2.lo, by omega, by omega, fun t st3 htl hts u3 => ?_⟩
    dsimp only
    rw [mNil_a]
    refine ⟨z2, hP _ _ ⟨_, rfl, .tup (k := 2) fun y hy => ?_⟩ u3⟩
    rcases List.mem_cons.mp hy with rfl | hy
    · exact .nm (hS x hx).1
    · rw [List.mem_singleton.mp hy]; exact .term fun s hs => (hts s hs).1
  · rw [mNil_a]
    exact oTuple_l (by rw [l3]; rfl) (endsOf_i (q2.out _ _ (.tup (k := 3) (Fm.all hF fun x y ⟨d, e, h⟩ => by cases e; exact h)) (u2.trans u3)))
end TB
end L2.DL

namespace L2.DL
open PySem PySem.Spec PyProof.Rows
local macro_rules | `(tactic| walk_at "s") => `(tactic| try simp only [mNeNil_a, mEqNil_a, nilO_ref, mRevS_a, rvsO_str, okPy_nil, List.isEmpty_nil, List.isEmpty_cons, sqAsg_a, sqDrop_a, sqPar_a, sqPar3_a, sqRet_a, sqNext_a, sqSeq_a, sNext_a, sBreak_a, sCont_a, sDrop_a, sRet_a, sRetN_a, sIf_a, sAsg_a, sPar_a, sPar3_a, mVar_a, vAt_a, mC_a, mBin_a, mTest_a, bAt_a, mAnd_a, mOr_a, mNot_a, mYes_a, mAndV_a, mOrV_a, mNotV_a, mIf_a, mNil_a, mCons_a, mTup_a, mLst_a, mCall_a, mCallK_a, mMeth_a, mSl_a, mNoPart_a, iAt_a, mPart_a, mIsi_b, tysO_some, List.any_cons, List.any_nil, Bool.or_false, Bool.false_or, Bool.or_true, Bool.true_or, Int.natCast_pos, gN_a, gTup_a, gCons_a, gNil_a, gSub_a, sFor_a, mLc_a, mDc_a, wSeq_a, sqO_tup, sqO_str, sqO_ref, wRng1_a, wRng2_b, wRng3_b, wEnum_a, enO_tup, enO_ref, mRev_a, revO_ref, List.getD_cons_zero, List.getD_cons_succ, ite_self, List.set_cons_zero, List.set_cons_succ, List.getElem?_cons_zero, List.getElem?_cons_succ, oAdd_int, oAdd_str, oAdd_tup, oAdd_ref, oSub_int, oMul_int, oDiv_int, oMod_int, oPow_int, oLt_int, oLe_int, oGt_int, oGe_int, oIs_nn, oIs_bn, oIs_in, oIs_sn, oIs_tn, oIs_rn, oIs_bb, oIs_nb, oIs_ib, oIs_sb, oIs_tb, oIs_rb, oIsi_int, oIsi_str, oIsi_bool, oIsi_tuple, oIsi_list, oIsi_dict, tyO_some, tyD_non, tyD_bl, tyD_int, tyD_str, tyD_tup, isi_facts, oEq_int, oNe_int, oEq_str, oNe_str, oSl_tup, oSl_str, oSl_ref, oLen_tup, oLen_str, oLen_ref, oAbs_int, oInt_int, oInt_bl, oMax_int, oMin_int, oTuple_tup, oTuple_ref, oList_tup, oList_str, oList_ref, oIx_tupE, oIx_ref, oAppend_ref, oPop_ref, oExtend_tupE, oSet_ref, isL_ref, isS_str, vO_some, ixO_lst, ixO_dicI, ixO_dicS, ixO_rodI, ixO_rodS, lsO_lst, rdO_lst, rdO_rol, lenO_lst, lenO_dic, lenO_rol, addO_lst, setO_lst, setO_dicI, setO_dicS, atI_zero, atI_one, atI_two, atI_end, startE, wipeE, List.map_cons, List.map_nil, List.length_cons, List.length_nil, List.replicate, List.cons_append, List.nil_append, Nat.reduceAdd, Nat.reduceSub, List.replicate_succ, List.replicate_zero, put_same, Nat.zero_le, Int.reduceLT, Int.reduceLE, Nat.reduceLT, Nat.reduceLeDiff, and_true, true_and, Bool.false_eq_true, ↓reduceIte, Bool.not_true, Bool.not_false, decide_true, decide_false, *])
local macro_rules | `(tactic| walk_at "i") => `(tactic| try simp only [mNeNil_a, mEqNil_a, nilO_ref, mRevS_a, rvsO_str, okPy_nil, List.isEmpty_nil, List.isEmpty_cons, sqIf_a, sqAsg_a, sqDrop_a, sqPar_a, sqPar3_a, sqRet_a, sqNext_a, sqSeq_a, sNext_a, sBreak_a, sCont_a, sDrop_a, sRet_a, sRetN_a, sIf_a, sAsg_a, sPar_a, sPar3_a, mVar_a, vAt_a, mC_a, mBin_a, mTest_a, bAt_a, mAnd_a, mOr_a, mNot_a, mYes_a, mAndV_a, mOrV_a, mNotV_a, mIf_a, mNil_a, mCons_a, mTup_a, mLst_a, mCall_a, mCallK_a, mMeth_a, mSl_a, mNoPart_a, iAt_a, mPart_a, mIsi_b, tysO_some, List.any_cons, List.any_nil, Bool.or_false, Bool.false_or, Bool.or_true, Bool.true_or, Int.natCast_pos, gN_a, gTup_a, gCons_a, gNil_a, gSub_a, sFor_a, mLc_a, mDc_a, wSeq_a, sqO_tup, sqO_str, sqO_ref, wRng1_a, wRng2_b, wRng3_b, wEnum_a, enO_tup, enO_ref, mRev_a, revO_ref, List.getD_cons_zero, List.getD_cons_succ, ite_self, List.set_cons_zero, List.set_cons_succ, List.getElem?_cons_zero, List.getElem?_cons_succ, oAdd_int, oAdd_str, oAdd_tup, oAdd_ref, oSub_int, oMul_int, oDiv_int, oMod_int, oPow_int, oLt_int, oLe_int, oGt_int, oGe_int, oIs_nn, oIs_bn, oIs_in, oIs_sn, oIs_tn, oIs_rn, oIs_bb, oIs_nb, oIs_ib, oIs_sb, oIs_tb, oIs_rb, oIsi_int, oIsi_str, oIsi_bool, oIsi_tuple, oIsi_list, oIsi_dict, tyO_some, tyD_non, tyD_bl, tyD_int, tyD_str, tyD_tup, isi_facts, oEq_int, oNe_int, oEq_str, oNe_str, oSl_tup, oSl_str, oSl_ref, oLen_tup, oLen_str, oLen_ref, oAbs_int, oInt_int, oInt_bl, oMax_int, oMin_int, oTuple_tup, oTuple_ref, oList_tup, oList_str, oList_ref, oIx_tupE, oIx_ref, oAppend_ref, oPop_ref, oExtend_tupE, oSet_ref, isL_ref, isS_str, vO_some, ixO_lst, ixO_dicI, ixO_dicS, ixO_rodI, ixO_rodS, lsO_lst, rdO_lst, rdO_rol, lenO_lst, lenO_dic, lenO_rol, addO_lst, setO_lst, setO_dicI, setO_dicS, atI_zero, atI_one, atI_two, atI_end, startE, wipeE, List.map_cons, List.map_nil, List.length_cons, List.length_nil, List.replicate, List.cons_append, List.nil_append, Nat.reduceAdd, Nat.reduceSub, List.replicate_succ, List.replicate_zero, put_same, Nat.zero_le, Int.reduceLT, Int.reduceLE, Nat.reduceLT, Nat.reduceLeDiff, and_true, true_and, Bool.false_eq_true, ↓reduceIte, Bool.not_true, Bool.not_false, decide_true, decide_false, *])
namespace TB
def S_law_some_tree : DSp := fun vs st Q => ∃ W : Wr, vs = [.ref W.n, .ref W.w] ∧ Wd st W ∧ ∀ d st', Pd 30 d → Up W.n W.m st st' → Q d st'
/-- _law_some_tree(deal, world): 0 deal 1 world 2 tree 3 turn 4 what 5 path 6 branches 7 step -/
def t_law_some_tree : MS := sSeq (sAsg (mTup (mCons (mC (.str "same")) (mNil))) (gN 2))
    (sSeq (sFor (wRng1 (mCall S_law_any (mCons (mVar 0) (mCons (mC (.int 4)) (mNil))))) (gN 3) (sIf (mTest (mBin oEq (mCall S_law_any (mCons (mVar 0) (mCons (mC (.int 2)) (mNil)))) (mC (.int 0)))) (sSeq (sAsg (mTup (mCons (mCall S_law_of (mCons (mVar 0) (mCons (mLst (mCons (mC (.str "smaller")) (mCons (mC (.str "claim")) (mCons (mC (.str "claim")) (mNil))))) (mNil)))) (mCons (mCall S_law_of (mCons (mVar 0) (mCons (mLst (mCons (mC (.int 0)) (mCons (mC (.int 0)) (mCons (mC (.int 1)) (mCons (mC (.int 2)) (mCons (mC (.int 5)) (mNil))))))) (mNil)))) (mNil)))) (gN 4))
    (sSeq (sAsg (mCall oTuple (mCons (mLc (wRng1 (mCall S_law_any (mCons (mVar 0) (mCons (mC (.int 3)) (mNil))))) (gN 7) (mYes) (mCall S_law_any (mCons (mVar 0) (mCons (mC (.int 3)) (mNil)))) [7]) (mNil))) (gN 5))
    (sAsg (mTup (mCons (mC (.str "use")) (mCons (mVar 4) (mCons (mCall S_law_any (mCons (mVar 0) (mCons (mC (.int 2)) (mNil)))) (mCons (mVar 5) (mCons (mBin oEq (mCall S_law_any (mCons (mVar 0) (mCons (mC (.int 2)) (mNil)))) (mC (.int 0))) (mCons (mCall S_law_some_filling (mCons (mVar 0) (mCons (mVar 1) (mNil)))) (mCons (mVar 2) (mNil))))))))) (gN 2)))) (sSeq (sAsg (mLst (mCons (mTup (mCons (mCall S_law_of (mCons (mVar 0) (mCons (mBin oIx (mVar 1) (mC (.str "names"))) (mNil)))) (mCons (mCall oTuple (mCons (mSl (mCall S_law_mixed (mCons (mVar 0) (mCons (mBin oIx (mVar 1) (mC (.str "letters"))) (mNil)))) (mNoPart) (mPart (mCall S_law_any (mCons (mVar 0) (mCons (mC (.int 3)) (mNil)))))) (mNil))) (mCons (mVar 2) (mNil))))) (mNil))) (gN 6))
    (sSeq (sIf (mTest (mBin oEq (mCall S_law_any (mCons (mVar 0) (mCons (mC (.int 2)) (mNil)))) (mC (.int 0)))) (sDrop (mMeth isL oAppend (mVar 6) (mCons (mTup (mCons (mCall S_law_of (mCons (mVar 0) (mCons (mBin oIx (mVar 1) (mC (.str "names"))) (mNil)))) (mCons (mTup (mNil)) (mCons (mTup (mCons (mC (.str "same")) (mNil))) (mNil))))) (mNil)))) (sNext))
    (sAsg (mTup (mCons (mCall S_law_of (mCons (mVar 0) (mCons (mLst (mCons (mC (.str "cases")) (mCons (mC (.str "grow")) (mNil)))) (mNil)))) (mCons (mCall S_law_of (mCons (mVar 0) (mCons (mBin oIx (mVar 1) (mC (.str "letters"))) (mNil)))) (mCons (mCall oTuple (mCons (mVar 6) (mNil))) (mNil))))) (gN 2))))))
    (sRet (mVar 2)))
theorem pd_list {k : Nat} {xs : List D} (h : ∀ x ∈ xs, Pd k x) : Pd (k + 1) (.tup xs) := .tup h
theorem pd_words {d : D} {ws : List Str} (h : d ∈ ws.map D.str) (hw : ∀ w ∈ ws, PyData.strOk w = true) {k : Nat} : Pd k d := by
  obtain ⟨x, hx, rfl⟩ := List.mem_map.mp h
  exact .str (hw x hx)
theorem pd_ints {d : D} {ws : List Int} (h : d ∈ ws.map D.int) {k : Nat} : Pd k d := by
  obtain ⟨x, hx, rfl⟩ := List.mem_map.mp h
  exact .int x
theorem kp_law_some_tree : Keeps 2 8 S_law_some_tree t_law_some_tree := by
  refine ⟨fun ds st Q ⟨W, e, _⟩ => by rw [e]; rfl, fun ds st Q ⟨W, e, hW, q⟩ => ?_⟩
  subst e
  have z0 : 0 ≤ sizeLine := by decide
  have z1 : [D.non].length ≤ sizeLine := by decide
  have z2 : [D.non, D.non].length ≤ sizeLine := by decide
  have z3 : [D.non, D.non, D.non].length ≤ sizeLine := by decide
  have z7 : [D.non, D.non, D.non, D.non, D.non, D.non, D.non].length ≤ sizeLine := by decide
  have pS : ∀ k : Nat, Pd k (.str "same") := fun k => .str (by decide +kernel)
  have pU : ∀ k : Nat, Pd k (.str "use") := fun k => .str (by decide +kernel)
  have q2 := Hdn.mk q
  clear q
  unfold t_law_some_tree
  have e0 : startE 8 [D.ref W.n, .ref W.w] = [some (.ref W.n), some (.ref W.w), none, none, none, none, none, none] := rfl
  rw [e0, sSeq_a, sAsg_a, mTup_a, mCons_a, mC_a, mNil_a]
  refine ⟨z1, ?_⟩
  rw [gN_a]
  simp only [List.set_cons_zero, List.set_cons_succ]
  refine sSeq_i (fun env st' => ∃ g3 g4 g5 g6 g7, ∃ t : D, env = [some (.ref W.n), some (.ref W.w), some t, g3, g4, g5, g6, g7] ∧ Pd 30 t ∧ Up W.n W.m st st') (fun nx hnx => ?_) ?_
  · rw [sFor_a, wRng1_a]
    refine any_c rfl hW.deal (by omega) fun v v0 v1 st1 u1 => ?_
    rw [iAt_a]
    refine ⟨by omega, fun i env st' => ∃ g3 g4 g5 g6 g7, ∃ t : D, env = [some (.ref W.n), some (.ref W.w), some t, g3, g4, g5, g6, g7] ∧ Pd (8 + 5 * i) t ∧ Up W.n W.m st st', ⟨none, none, none, none, none, _, rfl, .tup (k := 7) (fun x hx => by rw [List.mem_singleton.mp hx]; exact pS _), u1⟩, fun _ _ _ _ _ => trivial, ?_, ?_⟩
    · rintro i x env st2 hx ⟨g3, g4, g5, g6, g7, t, rfl, ht, u2⟩
      clear hnx
      have hW2 := hW.up u2
      rw [gN_a]
      simp only [List.set_cons_zero, List.set_cons_succ]
      rw [sIf_a, mTest_a, mBin_a]
      refine any_c rfl hW2.deal (by omega) fun a a0 a1 st3 u3 => ?_
      rw [mC_a, oEq_int, bAt_a]
      have hW3 := hW2.up u3
      have u23 := u2.trans u3
      clear u2 u3 hW2
      by_cases c : a = 0
      · rw [if_pos (by simpa using c)]
        -- use
        rw [sSeq_a, sAsg_a, mTup_a, mCons_a]
        refine of_c (ds := (["smaller", "claim", "claim"] : List Str).map D.str) rfl hW3.deal (fun Q hQ => hQ) (by simp) fun d1 hd1 st4 u4 => ?_
        have hW4 := hW3.up u4
        rw [mCons_a]
        refine of_c (ds := ([0, 0, 1, 2, 5] : List Int).map D.int) rfl hW4.deal (fun Q hQ => hQ) (by simp) fun d2 hd2 st5 u5 => ?_
        rw [mNil_a]
        refine ⟨z2, ?_⟩
        have p4 : Pd 1 (.tup [d1, d2]) := pd_list (k := 0) fun y hy => by
          rcases List.mem_cons.mp hy with rfl | hy
          · exact pd_words hd1 (by decide +kernel)
          · rw [List.mem_singleton.mp hy]; exact pd_ints hd2
        generalize D.tup [d1, d2] = what at *
        have hW5 := hW4.up u5
        have u25 := (u23.trans u4).trans u5
        clear hd1 hd2 u4 u5 hW3 hW4 u23
        rw [gN_a]
        simp only [List.set_cons_zero, List.set_cons_succ]
        rw [sSeq_a, sAsg_a, mCall_a, mCons_a, mLc_a, wRng1_a]
        refine any_c rfl hW5.deal (by omega) fun b b0 b1 st6 u6 => ?_
        rw [iAt_a]
        have u26 := u25.trans u6
        refine ⟨by omega, lc_up (n := W.n) (m := W.m) (fun _ o => ∃ i, o = some (.int i)) u26.deal (fun _ _ => trivial) (by rw [rangeD_len, szL]; omega) (fun y hy st7 u7 P N hP hN => ?_) fun p ys st7 hp hF u7 lp => ?_⟩
        · rw [gN_a, mYes_a, if_pos rfl]
          exact any_c rfl u7.deal (by omega) fun v _ _ st8 u8 => hP _ _ ⟨v, rfl⟩ u8
        have hys : ∀ y ∈ ys, Pd 0 y := Fm.all hF fun x y ⟨i, e⟩ => by cases e; exact .int i
        rw [mNil_a]
        refine oTuple_l (by rw [lp]; rfl) ?_
        have u27 := u26.trans u7
        have hW7 := hW.up u27
        clear hF lp u26 u7 u6 u25 hW5
        rw [gN_a]
        simp only [List.set_cons_zero, List.set_cons_succ]
        rw [sAsg_a, mTup_a, mCons_a, mC_a, mCons_a, mVar_a]
        simp only [vAt_a, List.getElem?_cons_zero, List.getElem?_cons_succ]
        rw [mCons_a]
        refine any_c rfl hW7.deal (by omega) fun c1 _ _ st8 u8 => ?_
        have hW8 := hW7.up u8
        rw [mCons_a, mVar_a]
        simp only [vAt_a, List.getElem?_cons_zero, List.getElem?_cons_succ]
        rw [mCons_a, mBin_a]
        refine any_c rfl hW8.deal (by omega) fun c2 _ _ st9 u9 => ?_
        have hW9 := hW8.up u9
        rw [mC_a, oEq_int, mCons_a, mCall_a, mCons_a, mVar_a]
        simp only [vAt_a, List.getElem?_cons_zero, List.getElem?_cons_succ]
        rw [mCons_a, mVar_a]
        simp only [vAt_a, List.getElem?_cons_zero, List.getElem?_cons_succ]
        rw [mNil_a]
        refine ⟨W, rfl, hW9, fun fd st10 hfd u10 => ?_⟩
        dsimp only
        rw [mCons_a, mVar_a]
        simp only [vAt_a, List.getElem?_cons_zero, List.getElem?_cons_succ]
        rw [mNil_a]
        refine ⟨z7, ?_⟩
        rw [gN_a]
        simp only [List.set_cons_zero, List.set_cons_succ]
        refine ⟨_, _, _, _, _, _, rfl, .mono (pd_list (k := 8 + 5 * i) fun y hy => ?_) (by omega), ((u27.trans u8).trans u9).trans u10⟩
        simp only [List.mem_cons, List.not_mem_nil, or_false] at hy
        rcases hy with rfl | rfl | rfl | rfl | rfl | rfl | rfl
        · exact pU _
        · exact p4.mono (by omega)
        · exact .int _
        · exact (pd_list hys).mono (by omega)
        · exact .bl _
        · exact hfd.mono (by omega)
        · exact ht
      · rw [if_neg (by simpa using c)]
        -- cases
        rw [sSeq_a, sAsg_a, mLst_a, mCons_a, mTup_a, mCons_a]
        refine of_names rfl rfl hW3 fun x1 hx1 st4 u4 => ?_
        have hW4 := hW3.up u4
        rw [mCons_a, mCall_a, mCons_a]
        refine some_letters (b := 3) rfl rfl hW4 (by omega) (fun st Q hQ => hQ) fun p l st5 hl1 hl2 hl pn pm hp u5 lp => ?_
        rw [mNil_a]
        refine oTuple_l (xs := l.map D.str) (by rw [lp]; rfl) ?_
        rw [mCons_a, mVar_a]
        simp only [vAt_a, List.getElem?_cons_zero, List.getElem?_cons_succ]
        rw [mNil_a]
        refine ⟨z3, ?_⟩
        have u25 := (u23.trans u4).trans u5
        have pl : Pd 1 (.tup (l.map D.str)) := pd_list (k := 0) fun y hy => by
          obtain ⟨x, hx, rfl⟩ := List.mem_map.mp hy
          exact .nm (hl x hx).1
        have pb : Pd (9 + 5 * i) (.tup [.str x1, .tup (l.map D.str), t]) := .mono (pd_list (k := 8 + 5 * i) fun y hy => by
          simp only [List.mem_cons, List.not_mem_nil, or_false] at hy
          rcases hy with rfl | rfl | rfl
          · exact .nm hx1.1
          · exact pl.mono (by omega)
          · exact ht) (by omega)
        generalize D.tup [.str x1, .tup (l.map D.str), t] = br at *
        rw [mNil_a]
        refine ⟨z1, fun p6 hp6 => ?_⟩
        have pd6 := hp6.deal u25.deal
        have u26 := u25.then (Keep.put (o := .lst [br]) hp6)
        have lp6 : put st5 p6 (.lst [br]) p6 = some (.lst [br]) := put_same
        generalize put st5 p6 (.lst [br]) = st6 at *
        rw [gN_a]
        simp only [List.set_cons_zero, List.set_cons_succ]
        have hp60 := hp6.back u25 pd6.1 pd6.2
        clear lp hp hp6 u25 u4 u5 hW4 hW3 u23
        refine sSeq_i (fun env st' => ∃ bs : List D, env = [some (.ref W.n), some (.ref W.w), some t, some x, g4, g5, some (.ref p6), g7] ∧ (∀ y ∈ bs, Pd (9 + 5 * i) y) ∧ Up W.n W.m st st' ∧ st' p6 = some (.lst bs)) (fun nx1 hnx1 => ?_) ?_
        · rw [sIf_a, mTest_a, mBin_a]
          refine any_c rfl u26.deal (by omega) fun a a0 a1 st7 u7 => ?_
          have lp7 := u7.l pd6.1 pd6.2 lp6
          have u27 := u26.trans u7
          have hW7 := hW.up u27
          rw [mC_a, oEq_int, bAt_a]
          by_cases c2 : a = 0
          · rw [if_pos (by simpa using c2), sDrop_a, mMeth_a, mVar_a]
            simp only [vAt_a, List.getElem?_cons_zero, List.getElem?_cons_succ]
            refine ⟨⟨p6, _, rfl, by rw [lp7]; rfl⟩, ?_⟩
            rw [mCons_a, mTup_a, mCons_a]
            refine of_names rfl rfl hW7 fun x2 hx2 st8 u8 => ?_
            rw [mCons_a, mTup_a, mNil_a]
            refine ⟨z0, ?_⟩
            rw [mCons_a, mTup_a, mCons_a, mC_a, mNil_a]
            refine ⟨z1, ?_⟩
            rw [mNil_a]
            refine ⟨z3, ?_⟩
            rw [mNil_a]
            have lp8 := u8.l pd6.1 pd6.2 lp7
            refine oAppend_l lp8 (by rw [szL]; simp) (hnx1 _ _ ⟨_, rfl, fun y hy => ?_, (u27.trans u8).put hp60 pd6.1 pd6.2, put_same⟩)
            simp only [List.mem_append, List.mem_cons, List.not_mem_nil, or_false] at hy
            rcases hy with rfl | rfl
            · exact pb
            · refine .mono (pd_list (k := 1) fun y hy => ?_) (by omega)
              simp only [List.mem_cons, List.not_mem_nil, or_false] at hy
              rcases hy with rfl | rfl | rfl
              · exact .nm hx2.1
              · exact pd_list (k := 0) fun y hy => absurd hy List.not_mem_nil
              · exact pd_list (k := 0) fun y hy => by rw [List.mem_singleton.mp hy]; exact pS _
          · rw [if_neg (by simpa using c2), sNext_a]
            exact hnx1 _ _ ⟨_, rfl, fun y hy => by rw [List.mem_singleton.mp hy]; exact pb, u27, lp7⟩
        · rintro env st7 ⟨bs, rfl, hbs, u7, lp7⟩
          have hW7 := hW.up u7
          rw [sAsg_a, mTup_a, mCons_a]
          refine of_c (ds := (["cases", "grow"] : List Str).map D.str) rfl hW7.deal (fun Q hQ => hQ) (by simp) fun d1 hd1 st8 u8 => ?_
          rw [mCons_a]
          refine of_letters rfl rfl (hW7.up u8) fun x3 hx3 st9 u9 => ?_
          have lp9 := u9.l pd6.1 pd6.2 (u8.l pd6.1 pd6.2 lp7)
          rw [mCons_a, mCall_a, mCons_a, mVar_a]
          simp only [vAt_a, List.getElem?_cons_zero, List.getElem?_cons_succ]
          rw [mNil_a]
          refine oTuple_l (by rw [lp9]; rfl) ?_
          rw [mNil_a]
          refine ⟨z3, ?_⟩
          rw [gN_a]
          simp only [List.set_cons_zero, List.set_cons_succ]
          refine ⟨_, _, _, _, _, _, rfl, .mono (pd_list (k := 10 + 5 * i) fun y hy => ?_) (by omega), (u7.trans u8).trans u9⟩
          simp only [List.mem_cons, List.not_mem_nil, or_false] at hy
          rcases hy with rfl | rfl | rfl
          · exact pd_words hd1 (by decide +kernel)
          · exact .nm hx3.1
          · exact (pd_list hbs).mono (by omega)
    · rintro env st2 ⟨g3, g4, g5, g6, g7, t, rfl, ht, u2⟩
      rw [rangeD_len] at ht
      exact hnx _ _ ⟨_, _, _, _, _, t, rfl, ht.mono (by omega), u2⟩
  · rintro env st2 ⟨g3, g4, g5, g6, g7, t, rfl, ht, u2⟩
    walk_at "s"
    exact endsOf_i (q2.out t _ ht u2)
end TB
end L2.DL

namespace L2.DL
open PySem PySem.Spec PyProof.Rows
local macro_rules | `(tactic| walk_at "s") => `(tactic| try simp only [mNeNil_a, mEqNil_a, nilO_ref, mRevS_a, rvsO_str, okPy_nil, List.isEmpty_nil, List.isEmpty_cons, sqAsg_a, sqDrop_a, sqPar_a, sqPar3_a, sqRet_a, sqNext_a, sqSeq_a, sNext_a, sBreak_a, sCont_a, sDrop_a, sRet_a, sRetN_a, sIf_a, sAsg_a, sPar_a, sPar3_a, mVar_a, vAt_a, mC_a, mBin_a, mTest_a, bAt_a, mAnd_a, mOr_a, mNot_a, mYes_a, mAndV_a, mOrV_a, mNotV_a, mIf_a, mNil_a, mCons_a, mTup_a, mLst_a, mCall_a, mCallK_a, mMeth_a, mSl_a, mNoPart_a, iAt_a, mPart_a, mIsi_b, tysO_some, List.any_cons, List.any_nil, Bool.or_false, Bool.false_or, Bool.or_true, Bool.true_or, Int.natCast_pos, gN_a, gTup_a, gCons_a, gNil_a, gSub_a, sFor_a, mLc_a, mDc_a, wSeq_a, sqO_tup, sqO_str, sqO_ref, wRng1_a, wRng2_b, wRng3_b, wEnum_a, enO_tup, enO_ref, mRev_a, revO_ref, List.getD_cons_zero, List.getD_cons_succ, ite_self, List.set_cons_zero, List.set_cons_succ, List.getElem?_cons_zero, List.getElem?_cons_succ, oAdd_int, oAdd_str, oAdd_tup, oAdd_ref, oSub_int, oMul_int, oDiv_int, oMod_int, oPow_int, oLt_int, oLe_int, oGt_int, oGe_int, oIs_nn, oIs_bn, oIs_in, oIs_sn, oIs_tn, oIs_rn, oIs_bb, oIs_nb, oIs_ib, oIs_sb, oIs_tb, oIs_rb, oIsi_int, oIsi_str, oIsi_bool, oIsi_tuple, oIsi_list, oIsi_dict, tyO_some, tyD_non, tyD_bl, tyD_int, tyD_str, tyD_tup, isi_facts, oEq_int, oNe_int, oEq_str, oNe_str, oSl_tup, oSl_str, oSl_ref, oLen_tup, oLen_str, oLen_ref, oAbs_int, oInt_int, oInt_bl, oMax_int, oMin_int, oTuple_tup, oTuple_ref, oList_tup, oList_str, oList_ref, oIx_tupE, oIx_ref, oAppend_ref, oPop_ref, oExtend_tupE, oSet_ref, isL_ref, isS_str, vO_some, ixO_lst, ixO_dicI, ixO_dicS, ixO_rodI, ixO_rodS, lsO_lst, rdO_lst, rdO_rol, lenO_lst, lenO_dic, lenO_rol, addO_lst, setO_lst, setO_dicI, setO_dicS, atI_zero, atI_one, atI_two, atI_end, startE, wipeE, List.map_cons, List.map_nil, List.length_cons, List.length_nil, List.replicate, List.cons_append, List.nil_append, Nat.reduceAdd, Nat.reduceSub, List.replicate_succ, List.replicate_zero, put_same, Nat.zero_le, Int.reduceLT, Int.reduceLE, Nat.reduceLT, Nat.reduceLeDiff, and_true, true_and, Bool.false_eq_true, ↓reduceIte, Bool.not_true, Bool.not_false, decide_true, decide_false, *])
local macro_rules | `(tactic| walk_at "i") => `(tactic| try simp only [mNeNil_a, mEqNil_a, nilO_ref, mRevS_a, rvsO_str, okPy_nil, List.isEmpty_nil, List.isEmpty_cons, sqIf_a, sqAsg_a, sqDrop_a, sqPar_a, sqPar3_a, sqRet_a, sqNext_a, sqSeq_a, sNext_a, sBreak_a, sCont_a, sDrop_a, sRet_a, sRetN_a, sIf_a, sAsg_a, sPar_a, sPar3_a, mVar_a, vAt_a, mC_a, mBin_a, mTest_a, bAt_a, mAnd_a, mOr_a, mNot_a, mYes_a, mAndV_a, mOrV_a, mNotV_a, mIf_a, mNil_a, mCons_a, mTup_a, mLst_a, mCall_a, mCallK_a, mMeth_a, mSl_a, mNoPart_a, iAt_a, mPart_a, mIsi_b, tysO_some, List.any_cons, List.any_nil, Bool.or_false, Bool.false_or, Bool.or_true, Bool.true_or, Int.natCast_pos, gN_a, gTup_a, gCons_a, gNil_a, gSub_a, sFor_a, mLc_a, mDc_a, wSeq_a, sqO_tup, sqO_str, sqO_ref, wRng1_a, wRng2_b, wRng3_b, wEnum_a, enO_tup, enO_ref, mRev_a, revO_ref, List.getD_cons_zero, List.getD_cons_succ, ite_self, List.set_cons_zero, List.set_cons_succ, List.getElem?_cons_zero, List.getElem?_cons_succ, oAdd_int, oAdd_str, oAdd_tup, oAdd_ref, oSub_int, oMul_int, oDiv_int, oMod_int, oPow_int, oLt_int, oLe_int, oGt_int, oGe_int, oIs_nn, oIs_bn, oIs_in, oIs_sn, oIs_tn, oIs_rn, oIs_bb, oIs_nb, oIs_ib, oIs_sb, oIs_tb, oIs_rb, oIsi_int, oIsi_str, oIsi_bool, oIsi_tuple, oIsi_list, oIsi_dict, tyO_some, tyD_non, tyD_bl, tyD_int, tyD_str, tyD_tup, isi_facts, oEq_int, oNe_int, oEq_str, oNe_str, oSl_tup, oSl_str, oSl_ref, oLen_tup, oLen_str, oLen_ref, oAbs_int, oInt_int, oInt_bl, oMax_int, oMin_int, oTuple_tup, oTuple_ref, oList_tup, oList_str, oList_ref, oIx_tupE, oIx_ref, oAppend_ref, oPop_ref, oExtend_tupE, oSet_ref, isL_ref, isS_str, vO_some, ixO_lst, ixO_dicI, ixO_dicS, ixO_rodI, ixO_rodS, lsO_lst, rdO_lst, rdO_rol, lenO_lst, lenO_dic, lenO_rol, addO_lst, setO_lst, setO_dicI, setO_dicS, atI_zero, atI_one, atI_two, atI_end, startE, wipeE, List.map_cons, List.map_nil, List.length_cons, List.length_nil, List.replicate, List.cons_append, List.nil_append, Nat.reduceAdd, Nat.reduceSub, List.replicate_succ, List.replicate_zero, put_same, Nat.zero_le, Int.reduceLT, Int.reduceLE, Nat.reduceLT, Nat.reduceLeDiff, and_true, true_and, Bool.false_eq_true, ↓reduceIte, Bool.not_true, Bool.not_false, decide_true, decide_false, *])
namespace TB
/-- behind draws that change the world's numbers -/
structure UpW (W : Wr) (st st' : Sto) : Prop where
  keep : ∀ a o, a ≠ W.n → a ≠ W.m → a ≠ W.w → nr o → st a = some o → st' a = some o
  wd : Wd st' W
theorem UpW.of {W : Wr} {a b : Sto} (h : Wd a W) (u : Up W.n W.m a b) : UpW W a b := ⟨fun x o h1 h2 _ hn e => u.keep x o h1 h2 hn e, h.up u⟩
theorem UpW.then {W : Wr} {a b c : Sto} (h : UpW W a b) (u : Up W.n W.m b c) : UpW W a c := ⟨fun x o h1 h2 h3 hn e => u.keep x o h1 h2 hn (h.keep x o h1 h2 h3 hn e), h.wd.up u⟩
theorem UpW.trans {W : Wr} {a b c : Sto} (h : UpW W a b) (u : UpW W b c) : UpW W a c := ⟨fun x o h1 h2 h3 hn e => u.keep x o h1 h2 h3 hn (h.keep x o h1 h2 h3 hn e), u.wd⟩
def tenW : List Str := ["sort", "open", "make", "do", "rule", "word", "alike", "unlike", "all", "broken"]
theorem word_if {k : Str} {A B : MS} {D : DEnds} {env : Env} {st : Sto} {w : Str} (hw : env[2]? = some (some (.str w))) (h1 : w = k → A { D with nx := B D } env st) (h2 : w ≠ k → B D env st) : sSeq (sIf (mTest (mBin oEq (mVar 2) (mC (.str k)))) A sNext) B D env st := by
  rw [sSeq_a, sIf_a, mTest_a, mBin_a, mVar_a, hw, vAt_a, mC_a, oEq_str, bAt_a]
  by_cases c : w = k
  · rw [if_pos (by simpa using c)]
    exact h1 c
  · rw [if_neg (by simpa using c), sNext_a]
    exact h2 c
theorem wd_set {st : Sto} {W : Wr} (h : Wd st W) {r s d : Int} : UpW W st (put st W.w (wdD W r s d)) := by
  obtain ⟨r0, s0, d0, e⟩ := h.at_
  have nw : ∀ {a : Addr} {xs : List D}, st a = some (.lst xs) → a ≠ W.w := fun ha e2 => by
    rw [e2, e] at ha
    cases ha
  obtain ⟨c, x, dl⟩ := h.deal
  refine ⟨fun a o _ _ h3 _ e2 => by rw [put_ne h3]; exact e2, ⟨h.deal.put h.wn.1 h.wn.2, h.wn, ⟨r, s, d, put_same⟩, ?_, ?_, ?_, h.so, h.no, h.lo⟩⟩
  · exact ⟨h.s.1, h.s.2.1, by rw [put_ne (nw h.s.2.2)]; exact h.s.2.2⟩
  · exact ⟨h.na.1, h.na.2.1, by rw [put_ne (nw h.na.2.2)]; exact h.na.2.2⟩
  · exact ⟨h.l.1, h.l.2.1, by rw [put_ne (nw h.l.2.2)]; exact h.l.2.2⟩
def S_law_some_line : DSp := fun vs st Q => ∃ W : Wr, vs = [.ref W.n, .ref W.w] ∧ Wd st W ∧ ∀ l st', LnOk l → UpW W st st' → Q (lnD l) st'
/-- _law_some_line(deal, world): 0 deal 1 world 2 word 3 place 4 names 5 letters 6 written 7 one 8 other 9 told 10 turn -/
def t_law_some_line : MS := sSeq (sAsg (mCall S_law_of (mCons (mVar 0) (mCons (mLst (mCons (mC (.str "sort")) (mCons (mC (.str "open")) (mCons (mC (.str "make")) (mCons (mC (.str "do")) (mCons (mC (.str "rule")) (mCons (mC (.str "rule")) (mCons (mC (.str "rule")) (mCons (mC (.str "word")) (mCons (mC (.str "alike")) (mCons (mC (.str "unlike")) (mCons (mC (.str "all")) (mCons (mC (.str "all")) (mCons (mC (.str "broken")) (mNil))))))))))))))) (mNil)))) (gN 2))
    (sSeq (sAsg (mIf (mTest (mBin oEq (mVar 2) (mC (.str "rule")))) (mC (.str "rules left")) (mIf (mTest (mBin oIn (mVar 2) (mLst (mCons (mC (.str "sort")) (mCons (mC (.str "open")) (mNil)))))) (mC (.str "sorts left")) (mIf (mTest (mBin oIn (mVar 2) (mLst (mCons (mC (.str "make")) (mCons (mC (.str "do")) (mNil)))))) (mC (.str "doers left")) (mC (.str ""))))) (gN 3))
    (sSeq (sIf (mTest (mBin oNe (mVar 3) (mC (.str "")))) (sSeq (sAsg (mBin oSub (mBin oIx (mVar 1) (mVar 3)) (mC (.int 1))) (gSub (mVar 1) (mVar 3) oSet))
    (sAsg (mIf (mTest (mBin oGe (mBin oIx (mVar 1) (mVar 3)) (mC (.int 0)))) (mVar 2) (mC (.str "unlike"))) (gN 2))) (sNext))
    (sSeq (sPar 4 5 (mCons (mBin oIx (mVar 1) (mC (.str "names"))) (mCons (mBin oIx (mVar 1) (mC (.str "letters"))) (mNil))))
    (sSeq (sIf (mTest (mBin oEq (mVar 2) (mC (.str "sort")))) (sRet (mTup (mCons (mVar 2) (mCons (mCall S_law_of (mCons (mVar 0) (mCons (mBin oIx (mVar 1) (mC (.str "sorts"))) (mNil)))) (mCons (mCall oTuple (mCons (mLc (wRng1 (mCall S_law_any (mCons (mVar 0) (mCons (mC (.int 3)) (mNil))))) (gN 10) (mYes) (mCall S_law_of (mCons (mVar 0) (mCons (mBin oIx (mVar 1) (mC (.str "sorts"))) (mNil)))) [10]) (mNil))) (mNil)))))) (sNext))
    (sSeq (sIf (mTest (mBin oEq (mVar 2) (mC (.str "open")))) (sRet (mTup (mCons (mVar 2) (mCons (mCall S_law_of (mCons (mVar 0) (mCons (mBin oIx (mVar 1) (mC (.str "sorts"))) (mNil)))) (mNil))))) (sNext))
    (sSeq (sIf (mTest (mBin oEq (mVar 2) (mC (.str "make")))) (sRet (mTup (mCons (mVar 2) (mCons (mCall S_law_of (mCons (mVar 0) (mCons (mVar 4) (mNil)))) (mCons (mCall S_law_some_pairs (mCons (mVar 0) (mCons (mVar 1) (mCons (mC (.int 2)) (mNil))))) (mCons (mCall S_law_some_pairs (mCons (mVar 0) (mCons (mVar 1) (mCons (mC (.int 3)) (mNil))))) (mCons (mCall S_law_some_kind (mCons (mVar 0) (mCons (mVar 1) (mNil)))) (mNil)))))))) (sNext))
    (sSeq (sIf (mTest (mBin oEq (mVar 2) (mC (.str "do")))) (sSeq (sAsg (mCall S_law_some_pairs (mCons (mVar 0) (mCons (mVar 1) (mCons (mC (.int 4)) (mNil))))) (gN 6))
    (sRet (mTup (mCons (mVar 2) (mCons (mCall S_law_of (mCons (mVar 0) (mCons (mVar 4) (mNil)))) (mCons (mCall S_law_some_pairs (mCons (mVar 0) (mCons (mVar 1) (mCons (mC (.int 2)) (mNil))))) (mCons (mVar 6) (mCons (mCall S_law_some_kind (mCons (mVar 0) (mCons (mVar 1) (mNil)))) (mCons (mCall S_law_row (mCons (mVar 0) (mCons (mCall oLen (mCons (mVar 6) (mNil))) (mNil)))) (mNil)))))))))) (sNext))
    (sSeq (sPar 7 8 (mCons (mCall S_law_some_term (mCons (mVar 0) (mCons (mVar 4) (mCons (mVar 5) (mCons (mC (.int 6)) (mNil)))))) (mCons (mCall S_law_some_term (mCons (mVar 0) (mCons (mVar 4) (mCons (mVar 5) (mCons (mC (.int 6)) (mNil)))))) (mNil))))
    (sSeq (sIf (mTest (mBin oEq (mVar 2) (mC (.str "rule")))) (sRet (mTup (mCons (mVar 2) (mCons (mVar 7) (mCons (mVar 8) (mNil)))))) (sNext))
    (sSeq (sIf (mTest (mBin oEq (mVar 2) (mC (.str "word")))) (sRet (mTup (mCons (mVar 2) (mCons (mCall S_law_of (mCons (mVar 0) (mCons (mVar 4) (mNil)))) (mCons (mVar 7) (mNil)))))) (sNext))
    (sSeq (sAsg (mCall S_law_some_pairs (mCons (mVar 0) (mCons (mVar 1) (mCons (mC (.int 3)) (mNil))))) (gN 9))
    (sSeq (sIf (mTest (mBin oEq (mVar 2) (mC (.str "all")))) (sRet (mTup (mCons (mVar 2) (mCons (mVar 9) (mCons (mVar 7) (mCons (mVar 8) (mCons (mCall S_law_some_tree (mCons (mVar 0) (mCons (mVar 1) (mNil)))) (mNil)))))))) (sNext))
    (sRet (mIf (mTest (mBin oEq (mVar 2) (mC (.str "broken")))) (mTup (mCons (mVar 2) (mCons (mVar 9) (mCons (mVar 7) (mCons (mVar 8) (mCons (mCall S_law_some_filling (mCons (mVar 0) (mCons (mVar 1) (mNil)))) (mNil))))))) (mTup (mCons (mVar 2) (mCons (mVar 9) (mCons (mVar 7) (mCons (mVar 8) (mNil))))))))))))))))))))
theorem words13 : ∀ d ∈ (["sort", "open", "make", "do", "rule", "rule", "rule", "word", "alike", "unlike", "all", "all", "broken"] : List Str), d ∈ tenW := by decide
theorem in2 {i : Nat} {env : Env} {st : Sto} {w a b : Str} {Q : Bool → Sto → Prop} (hw : env[i]? = some (some (.str w))) (q : ∀ st', Keep st st' → Q (decide (w ∈ ([a, b] : List Str))) st') :
    mTest (mBin oIn (mVar i) (mLst (mCons (mC (.str a)) (mCons (mC (.str b)) (mNil))))) env st Q := by
  rw [mTest_a, mBin_a, mVar_a, hw, vAt_a, mLst_a, mCons_a, mC_a, mCons_a, mC_a, mNil_a]
  refine ⟨by rw [szL]; simp, fun p hp => ?_⟩
  refine oIn_l (xs := ([a, b] : List Str).map D.str) (by rw [put_same]; rfl) rfl (flat_strs _) ?_
  rw [inF_strs, bAt_a]
  exact q _ (Keep.put hp)
section
variable {W : Wr} {env : Env} {st : Sto} {Q : DK}
theorem pairs_c {k : Int} (h0 : env[0]? = some (some (.ref W.n))) (h1 : env[1]? = some (some (.ref W.w))) (h : Wd st W) (hk : 0 ≤ k ∧ k ≤ 10) (q : ∀ ds st', ds.length ≤ 20 → Pd 8 (.tup ds) → Up W.n W.m st st' → Q (.tup ds) st') :
    mCall S_law_some_pairs (mCons (mVar 0) (mCons (mVar 1) (mCons (mC (.int k)) (mNil)))) env st Q := by
  rw [mCall_a, mCons_a, mVar_a, h0, vAt_a, mCons_a, mVar_a, h1, vAt_a, mCons_a, mC_a, mNil_a]
  exact ⟨W, k, rfl, h, hk.1, hk.2, q⟩
theorem kind_c (h0 : env[0]? = some (some (.ref W.n))) (h1 : env[1]? = some (some (.ref W.w))) (h : Wd st W) (q : ∀ d st', Pd 6 d → Up W.n W.m st st' → Q d st') :
    mCall S_law_some_kind (mCons (mVar 0) (mCons (mVar 1) (mNil))) env st Q := by
  rw [mCall_a, mCons_a, mVar_a, h0, vAt_a, mCons_a, mVar_a, h1, vAt_a, mNil_a]
  exact ⟨W, rfl, h, q⟩
theorem filling_c (h0 : env[0]? = some (some (.ref W.n))) (h1 : env[1]? = some (some (.ref W.w))) (h : Wd st W) (q : ∀ d st', Pd 4 d → Up W.n W.m st st' → Q d st') :
    mCall S_law_some_filling (mCons (mVar 0) (mCons (mVar 1) (mNil))) env st Q := by
  rw [mCall_a, mCons_a, mVar_a, h0, vAt_a, mCons_a, mVar_a, h1, vAt_a, mNil_a]
  exact ⟨W, rfl, h, q⟩
theorem tree_c (h0 : env[0]? = some (some (.ref W.n))) (h1 : env[1]? = some (some (.ref W.w))) (h : Wd st W) (q : ∀ d st', Pd 30 d → Up W.n W.m st st' → Q d st') :
    mCall S_law_some_tree (mCons (mVar 0) (mCons (mVar 1) (mNil))) env st Q := by
  rw [mCall_a, mCons_a, mVar_a, h0, vAt_a, mCons_a, mVar_a, h1, vAt_a, mNil_a]
  exact ⟨W, rfl, h, q⟩
theorem term_c {k : Nat} (h0 : env[0]? = some (some (.ref W.n))) (h4 : env[4]? = some (some (.ref W.na))) (h5 : env[5]? = some (some (.ref W.la))) (h : Wd st W) (hk : 1 ≤ k ∧ k ≤ 10) (q : ∀ (t : Term) st', t.length ≤ k → (∀ s ∈ t, nmOk s.1 ∧ -1 ≤ s.2) → Up W.n W.m st st' → Q (termD t) st') :
    mCall S_law_some_term (mCons (mVar 0) (mCons (mVar 4) (mCons (mVar 5) (mCons (mC (.int k)) (mNil))))) env st Q := by
  rw [mCall_a, mCons_a, mVar_a, h0, vAt_a, mCons_a, mVar_a, h4, vAt_a, mCons_a, mVar_a, h5, vAt_a, mCons_a, mC_a, mNil_a]
  exact ⟨W.n, W.m, W.na, W.la, W.ns, W.ls, k, rfl, h.deal, h.na, h.l, h.no, h.lo, hk.1, hk.2, q⟩
end
theorem tenW_str {w : Str} (h : w ∈ tenW) : PyData.strOk w = true := (by decide +kernel : ∀ w ∈ tenW, PyData.strOk w = true) w h
theorem kp_law_some_line : Keeps 2 11 S_law_some_line t_law_some_line := by
  refine ⟨fun ds st Q ⟨W, e, _⟩ => by rw [e]; rfl, fun ds st Q ⟨W, e, hW, q⟩ => ?_⟩
  subst e
  have z0 : 0 ≤ sizeLine := by decide
  have z1 : [D.non].length ≤ sizeLine := by decide
  have z2 : [D.non, D.non].length ≤ sizeLine := by decide
  have z3 : [D.non, D.non, D.non].length ≤ sizeLine := by decide
  have z4 : [D.non, D.non, D.non, D.non].length ≤ sizeLine := by decide
  have z5 : [D.non, D.non, D.non, D.non, D.non].length ≤ sizeLine := by decide
  have z6 : [D.non, D.non, D.non, D.non, D.non, D.non].length ≤ sizeLine := by decide
  have q2 := Hdn.mk q
  clear q
  unfold t_law_some_line
  have e0 : startE 11 [D.ref W.n, .ref W.w] = [some (.ref W.n), some (.ref W.w), none, none, none, none, none, none, none, none, none] := rfl
  rw [e0]
  refine sSeq_t fun T hT => ?_
  rw [sSeq_a, sAsg_a]
  refine of_c (ds := (["sort", "open", "make", "do", "rule", "rule", "rule", "word", "alike", "unlike", "all", "all", "broken"] : List Str).map D.str) rfl hW.deal (fun Q hQ => hQ) (by simp) fun d hd st1 u1 => ?_
  obtain ⟨w, hw, rfl⟩ := List.mem_map.mp hd
  replace hw := words13 w hw
  have v1 := UpW.of hW u1
  clear hd u1
  rw [gN_a]
  simp only [List.set_cons_zero, List.set_cons_succ]
  subst hT
  refine sSeq_i (fun env st' => ∃ pl : Str, env = [some (.ref W.n), some (.ref W.w), some (.str w), some (.str pl), none, none, none, none, none, none, none] ∧ pl ∈ (["rules left", "sorts left", "doers left", ""] : List Str) ∧ UpW W st st') (fun nx hnx => ?_) ?_
  · rw [sAsg_a, mIf_a, mTest_a, mBin_a, mVar_a]
    simp only [vAt_a, List.getElem?_cons_zero, List.getElem?_cons_succ]
    rw [mC_a, oEq_str, bAt_a]
    by_cases c : w = "rule"
    · rw [if_pos (by simpa using c), mC_a, gN_a]
      exact hnx _ _ ⟨_, rfl, by simp, v1⟩
    · rw [if_neg (by simpa using c), mIf_a]
      refine in2 rfl fun st2 k2 => ?_
      have v2 := v1.then (Up.of v1.wd.deal k2)
      by_cases c2 : w ∈ (["sort", "open"] : List Str)
      · rw [if_pos (by simpa using c2), mC_a, gN_a]
        exact hnx _ _ ⟨_, rfl, by simp, v2⟩
      · rw [if_neg (by simpa using c2), mIf_a]
        refine in2 rfl fun st3 k3 => ?_
        have v3 := v2.then (Up.of v2.wd.deal k3)
        by_cases c3 : w ∈ (["make", "do"] : List Str)
        · rw [if_pos (by simpa using c3), mC_a, gN_a]
          exact hnx _ _ ⟨_, rfl, by simp, v3⟩
        · rw [if_neg (by simpa using c3), mC_a, gN_a]
          exact hnx _ _ ⟨_, rfl, by simp, v3⟩
  · rintro env st2 ⟨pl, rfl, hpl, v2⟩
    clear v1
    refine sSeq_i (fun env st' => ∃ w : Str, env = [some (.ref W.n), some (.ref W.w), some (.str w), some (.str pl), none, none, none, none, none, none, none] ∧ w ∈ tenW ∧ UpW W st st') (fun nx hnx => ?_) ?_
    · rw [sIf_a, mTest_a, mBin_a, mVar_a]
      simp only [vAt_a, List.getElem?_cons_zero, List.getElem?_cons_succ]
      rw [mC_a, oNe_str, bAt_a]
      by_cases c : pl = ""
      · rw [if_neg (by simp [c]), sNext_a]
        exact hnx _ _ ⟨_, rfl, hw, v2⟩
      · rw [if_pos (by simp [c])]
        obtain ⟨r, s, d, ew⟩ := v2.wd.at_
        obtain ⟨i, hi, r2, s2, d2, hs⟩ : ∃ i : Int, valD [(.inr "sorts", .ref W.sa), (.inr "names", .ref W.na), (.inr "letters", .ref W.la), (.inr "rules left", .int r), (.inr "sorts left", .int s), (.inr "doers left", .int d)] (.inr pl : Key) = some (.int i) ∧
            ∃ r2 s2 d2 : Int, putD [(.inr "sorts", .ref W.sa), (.inr "names", .ref W.na), (.inr "letters", .ref W.la), (.inr "rules left", .int r), (.inr "sorts left", .int s), (.inr "doers left", .int d)] (.inr pl : Key) (.int (i - 1)) = [(.inr "sorts", .ref W.sa), (.inr "names", .ref W.na), (.inr "letters", .ref W.la), (.inr "rules left", .int r2), (.inr "sorts left", .int s2), (.inr "doers left", .int d2)] := by
          simp only [List.mem_cons, List.not_mem_nil, or_false] at hpl
          rcases hpl with rfl | rfl | rfl | rfl
          · exact ⟨r, rfl, r - 1, s, d, rfl⟩
          · exact ⟨s, rfl, r, s - 1, d, rfl⟩
          · exact ⟨d, rfl, r, s, d - 1, rfl⟩
          · exact absurd rfl c
        have ewr : rdD (st2 W.w) = some [(.inr "sorts", .ref W.sa), (.inr "names", .ref W.na), (.inr "letters", .ref W.la), (.inr "rules left", .int r), (.inr "sorts left", .int s), (.inr "doers left", .int d)] := by rw [ew]; rfl
        rw [sSeq_a, sAsg_a, mBin_a, mBin_a, mVar_a]
        simp only [vAt_a, List.getElem?_cons_zero, List.getElem?_cons_succ]
        rw [mVar_a]
        simp only [vAt_a, List.getElem?_cons_zero, List.getElem?_cons_succ]
        refine oIx_d (k := .inr pl) ewr rfl hi ?_
        rw [mC_a, oSub_int, gSub_a, mVar_a]
        simp only [vAt_a, List.getElem?_cons_zero, List.getElem?_cons_succ]
        rw [mVar_a]
        simp only [vAt_a, List.getElem?_cons_zero, List.getElem?_cons_succ]
        refine oSet_d (k := .inr pl) ew rfl (by rw [szL]; simp) ?_
        rw [hs]
        have v3 := v2.trans (wd_set v2.wd (r := r2) (s := s2) (d := d2))
        have e3 : rdD (put st2 W.w (wdD W r2 s2 d2) W.w) = some [(.inr "sorts", .ref W.sa), (.inr "names", .ref W.na), (.inr "letters", .ref W.la), (.inr "rules left", .int r2), (.inr "sorts left", .int s2), (.inr "doers left", .int d2)] := by rw [put_same]; rfl
        obtain ⟨j, hj⟩ : ∃ j : Int, valD [(.inr "sorts", .ref W.sa), (.inr "names", .ref W.na), (.inr "letters", .ref W.la), (.inr "rules left", .int r2), (.inr "sorts left", .int s2), (.inr "doers left", .int d2)] (.inr pl : Key) = some (.int j) := by
          simp only [List.mem_cons, List.not_mem_nil, or_false] at hpl
          rcases hpl with rfl | rfl | rfl | rfl
          · exact ⟨r2, rfl⟩
          · exact ⟨s2, rfl⟩
          · exact ⟨d2, rfl⟩
          · exact absurd rfl c
        rw [sAsg_a, mIf_a, mTest_a, mBin_a, mBin_a, mVar_a]
        simp only [vAt_a, List.getElem?_cons_zero, List.getElem?_cons_succ]
        rw [mVar_a]
        simp only [vAt_a, List.getElem?_cons_zero, List.getElem?_cons_succ]
        refine oIx_d (k := .inr pl) e3 rfl hj ?_
        rw [mC_a, oGe_int, bAt_a]
        by_cases c4 : (0 : Int) ≤ j
        · rw [if_pos (by simpa using c4), mVar_a]
          simp only [vAt_a, List.getElem?_cons_zero, List.getElem?_cons_succ]
          rw [gN_a]
          exact hnx _ _ ⟨w, rfl, hw, v3⟩
        · rw [if_neg (by simpa using c4), mC_a, gN_a]
          exact hnx _ _ ⟨"unlike", rfl, by decide, v3⟩
    · rintro env st3 ⟨w2, rfl, hw2, v3⟩
      clear v2 hw w hpl
      have hW3 := v3.wd
      rw [sSeq_a, sPar_a]
      refine w_names rfl hW3 (w_letters rfl hW3 ?_)
      simp only [List.set_cons_zero, List.set_cons_succ]
      have hwp := tenW_str hw2
      -- sort
      refine word_if rfl (fun e => ?_) fun n1 => ?_
      · subst e
        rw [sRet_a, mTup_a, mCons_a, mVar_a]
        simp only [vAt_a, List.getElem?_cons_zero, List.getElem?_cons_succ]
        rw [mCons_a]
        refine of_sorts rfl rfl hW3 fun x hx st4 u4 => ?_
        have v4 := v3.then u4
        rw [mCons_a, mCall_a, mCons_a, mLc_a, wRng1_a]
        refine any_c rfl v4.wd.deal (by omega) fun b b0 b1 st5 u5 => ?_
        have v5 := v4.then u5
        rw [iAt_a]
        refine ⟨by omega, lc_up (n := W.n) (m := W.m) (fun _ o => ∃ i, o = some (.str i) ∧ nmOk i) v5.wd.deal (fun _ _ => trivial) (by rw [rangeD_len, szL]; omega) (fun y hy st7 u7 P N hP hN => ?_) fun p ys st7 hp hF u7 lp => ?_⟩
        · rw [gN_a, mYes_a, if_pos rfl]
          exact of_sorts rfl rfl (v5.wd.up u7) fun x hx st8 u8 => hP _ _ ⟨x, rfl, hx.1⟩ u8
        have hys : ∀ y ∈ ys, Pd 0 y := Fm.all hF fun x y ⟨i, e, h⟩ => by cases e; exact .nm h
        rw [mNil_a]
        refine oTuple_l (by rw [lp]; rfl) ?_
        rw [mNil_a]
        refine ⟨z3, endsOf_i (q2.out (.tell "sort" x [.tup ys]) _ ⟨.mono (pd_list (k := 1) fun y hy => ?_) (by omega), by decide, hx.1, hx.2⟩ (v5.then u7))⟩
        simp only [List.mem_cons, List.not_mem_nil, or_false] at hy
        rcases hy with rfl | rfl | rfl
        · exact .str hwp
        · exact .nm hx.1
        · exact pd_list hys
      -- open
      refine word_if rfl (fun e => ?_) fun n2 => ?_
      · subst e
        rw [sRet_a, mTup_a, mCons_a, mVar_a]
        simp only [vAt_a, List.getElem?_cons_zero, List.getElem?_cons_succ]
        rw [mCons_a]
        refine of_sorts rfl rfl hW3 fun x hx st4 u4 => ?_
        have v4 := v3.then u4
        rw [mNil_a]
        refine ⟨z2, endsOf_i (q2.out (.tell "open" x []) _ ⟨.mono (pd_list (k := 1) fun y hy => ?_) (by omega), by decide, hx.1, hx.2⟩ v4)⟩
        simp only [List.mem_cons, List.not_mem_nil, or_false] at hy
        rcases hy with rfl | rfl
        · exact .str hwp
        · exact .nm hx.1
      -- make
      refine word_if rfl (fun e => ?_) fun n3 => ?_
      · subst e
        rw [sRet_a, mTup_a, mCons_a, mVar_a]
        simp only [vAt_a, List.getElem?_cons_zero, List.getElem?_cons_succ]
        rw [mCons_a]
        refine of_v (i := 4) rfl rfl hW3.deal hW3.na (by rw [List.length_map]; exact ⟨hW3.no.1, by have := hW3.no.2.1; omega⟩) fun d hd st4 u4 => ?_
        obtain ⟨x, hx, rfl⟩ := List.mem_map.mp hd
        replace hx := hW3.no.2.2 x hx
        have v4 := v3.then u4
        rw [mCons_a]
        refine pairs_c rfl rfl v4.wd (by omega) fun d1 st5 _ p1 u5 => ?_
        have v5 := v4.then u5
        rw [mCons_a]
        refine pairs_c rfl rfl v5.wd (by omega) fun d2 st6 _ p2 u6 => ?_
        have v6 := v5.then u6
        rw [mCons_a]
        refine kind_c rfl rfl v6.wd fun d3 st7 p3 u7 => ?_
        rw [mNil_a]
        refine ⟨z5, endsOf_i (q2.out (.tell "make" x [.tup d1, .tup d2, d3]) _ ⟨.mono (pd_list (k := 8) fun y hy => ?_) (by omega), by decide, hx.1, hx.2⟩ (v6.then u7))⟩
        simp only [List.mem_cons, List.not_mem_nil, or_false] at hy
        rcases hy with rfl | rfl | rfl | rfl | rfl
        · exact .str hwp
        · exact .nm hx.1
        · exact p1
        · exact p2
        · exact p3.mono (by omega)
      -- do
      refine word_if rfl (fun e => ?_) fun n4 => ?_
      · subst e
        rw [sSeq_a, sAsg_a]
        refine pairs_c rfl rfl hW3 (by omega) fun d0 st4 l0 p0 u4 => ?_
        have v4 := v3.then u4
        rw [gN_a]
        simp only [List.set_cons_zero, List.set_cons_succ]
        rw [sRet_a, mTup_a, mCons_a, mVar_a]
        simp only [vAt_a, List.getElem?_cons_zero, List.getElem?_cons_succ]
        rw [mCons_a]
        refine of_v (i := 4) rfl rfl v4.wd.deal v4.wd.na (by rw [List.length_map]; exact ⟨hW3.no.1, by have := hW3.no.2.1; omega⟩) fun d hd st5 u5 => ?_
        obtain ⟨x, hx, rfl⟩ := List.mem_map.mp hd
        replace hx := hW3.no.2.2 x hx
        have v5 := v4.then u5
        rw [mCons_a]
        refine pairs_c rfl rfl v5.wd (by omega) fun d1 st6 _ p1 u6 => ?_
        have v6 := v5.then u6
        rw [mCons_a, mVar_a]
        simp only [vAt_a, List.getElem?_cons_zero, List.getElem?_cons_succ]
        rw [mCons_a]
        refine kind_c rfl rfl v6.wd fun d3 st7 p3 u7 => ?_
        have v7 := v6.then u7
        rw [mCons_a, mCall_a, mCons_a, mVar_a]
        simp only [vAt_a, List.getElem?_cons_zero, List.getElem?_cons_succ]
        rw [mCons_a, mCall_a, mCons_a, mVar_a]
        simp only [vAt_a, List.getElem?_cons_zero, List.getElem?_cons_succ]
        rw [mNil_a, oLen_tup, mNil_a]
        refine ⟨W.n, W.m, d0.length, rfl, v7.wd.deal, by omega, fun d4 st8 p4 u8 => ?_⟩
        dsimp only
        rw [mNil_a]
        refine ⟨z6, endsOf_i (q2.out (.tell "do" x [.tup d1, .tup d0, d3, .tup d4]) _ ⟨.mono (pd_list (k := 8) fun y hy => ?_) (by omega), by decide, hx.1, hx.2⟩ (v7.then u8))⟩
        simp only [List.mem_cons, List.not_mem_nil, or_false] at hy
        rcases hy with rfl | rfl | rfl | rfl | rfl | rfl
        · exact .str hwp
        · exact .nm hx.1
        · exact p1
        · exact p0
        · exact p3.mono (by omega)
        · exact p4.mono (by omega)
      rw [sSeq_a, sPar_a]
      refine term_c (k := 6) rfl rfl rfl hW3 (by omega) fun t1 st4 l1 p1 u4 => ?_
      have v4 := v3.then u4
      refine term_c (k := 6) rfl rfl rfl v4.wd (by omega) fun t2 st5 l2 p2 u5 => ?_
      have v5 := v4.then u5
      have t1p : Pd 2 (termD t1) := .term fun s hs => (p1 s hs).1
      have t2p : Pd 2 (termD t2) := .term fun s hs => (p2 s hs).1
      simp only [List.set_cons_zero, List.set_cons_succ]
      clear hW3 u4 u5 v3 v4
      -- rule
      refine word_if rfl (fun e => ?_) fun n5 => ?_
      · subst e
        rw [sRet_a, mTup_a, mCons_a, mVar_a]
        simp only [vAt_a, List.getElem?_cons_zero, List.getElem?_cons_succ]
        rw [mCons_a, mVar_a]
        simp only [vAt_a, List.getElem?_cons_zero, List.getElem?_cons_succ]
        rw [mCons_a, mVar_a]
        simp only [vAt_a, List.getElem?_cons_zero, List.getElem?_cons_succ]
        rw [mNil_a]
        refine ⟨z3, endsOf_i (q2.out (.rule t1 [termD t2]) _ ⟨.mono (pd_list (k := 2) fun y hy => ?_) (by omega), l1, p1⟩ v5)⟩
        simp only [List.mem_cons, List.not_mem_nil, or_false] at hy
        rcases hy with rfl | rfl | rfl
        · exact .str hwp
        · exact t1p
        · exact t2p
      -- word
      refine word_if rfl (fun e => ?_) fun n6 => ?_
      · subst e
        rw [sRet_a, mTup_a, mCons_a, mVar_a]
        simp only [vAt_a, List.getElem?_cons_zero, List.getElem?_cons_succ]
        rw [mCons_a]
        refine of_v (i := 4) rfl rfl v5.wd.deal v5.wd.na (by rw [List.length_map]; exact ⟨v5.wd.no.1, by have := v5.wd.no.2.1; omega⟩) fun d hd st6 u6 => ?_
        obtain ⟨x, hx, rfl⟩ := List.mem_map.mp hd
        replace hx := v5.wd.no.2.2 x hx
        rw [mCons_a, mVar_a]
        simp only [vAt_a, List.getElem?_cons_zero, List.getElem?_cons_succ]
        rw [mNil_a]
        refine ⟨z3, endsOf_i (q2.out (.tell "word" x [termD t1]) _ ⟨.mono (pd_list (k := 2) fun y hy => ?_) (by omega), by decide, hx.1, hx.2⟩ (v5.then u6))⟩
        simp only [List.mem_cons, List.not_mem_nil, or_false] at hy
        rcases hy with rfl | rfl | rfl
        · exact .str hwp
        · exact .nm hx.1
        · exact t1p
      have hnot : w2 ∉ tellW ∧ w2 ≠ "rule" := ⟨fun h => by
        simp only [tellW, List.mem_cons, List.not_mem_nil, or_false] at h
        rcases h with h | h | h | h | h
        · exact n1 h
        · exact n2 h
        · exact n3 h
        · exact n4 h
        · exact n6 h, n5⟩
      rw [sSeq_a, sAsg_a]
      refine pairs_c rfl rfl v5.wd (by omega) fun d0 st6 _ p0 u6 => ?_
      have v6 := v5.then u6
      rw [gN_a]
      simp only [List.set_cons_zero, List.set_cons_succ]
      -- all
      refine word_if rfl (fun e => ?_) fun n7 => ?_
      · rw [sRet_a, mTup_a, mCons_a, mVar_a]
        simp only [vAt_a, List.getElem?_cons_zero, List.getElem?_cons_succ]
        rw [mCons_a, mVar_a]
        simp only [vAt_a, List.getElem?_cons_zero, List.getElem?_cons_succ]
        rw [mCons_a, mVar_a]
        simp only [vAt_a, List.getElem?_cons_zero, List.getElem?_cons_succ]
        rw [mCons_a, mVar_a]
        simp only [vAt_a, List.getElem?_cons_zero, List.getElem?_cons_succ]
        rw [mCons_a]
        refine tree_c rfl rfl v6.wd fun d7 st7 p7 u7 => ?_
        rw [mNil_a]
        refine ⟨z5, endsOf_i (q2.out (.other w2 [.tup d0, termD t1, termD t2, d7]) _ ⟨.mono (pd_list (k := 30) fun y hy => ?_) (by omega), hnot.1, hnot.2⟩ (v6.then u7))⟩
        simp only [List.mem_cons, List.not_mem_nil, or_false] at hy
        rcases hy with rfl | rfl | rfl | rfl | rfl
        · exact .str hwp
        · exact p0.mono (by omega)
        · exact t1p.mono (by omega)
        · exact t2p.mono (by omega)
        · exact p7
      rw [sRet_a, mIf_a, mTest_a, mBin_a, mVar_a]
      simp only [vAt_a, List.getElem?_cons_zero, List.getElem?_cons_succ]
      rw [mC_a, oEq_str, bAt_a]
      by_cases c : w2 = "broken"
      · rw [if_pos (by simpa using c), mTup_a, mCons_a, mVar_a]
        simp only [vAt_a, List.getElem?_cons_zero, List.getElem?_cons_succ]
        rw [mCons_a, mVar_a]
        simp only [vAt_a, List.getElem?_cons_zero, List.getElem?_cons_succ]
        rw [mCons_a, mVar_a]
        simp only [vAt_a, List.getElem?_cons_zero, List.getElem?_cons_succ]
        rw [mCons_a, mVar_a]
        simp only [vAt_a, List.getElem?_cons_zero, List.getElem?_cons_succ]
        rw [mCons_a]
        refine filling_c rfl rfl v6.wd fun d7 st7 p7 u7 => ?_
        rw [mNil_a]
        refine ⟨z5, endsOf_i (q2.out (.other w2 [.tup d0, termD t1, termD t2, d7]) _ ⟨.mono (pd_list (k := 30) fun y hy => ?_) (by omega), hnot.1, hnot.2⟩ (v6.then u7))⟩
        simp only [List.mem_cons, List.not_mem_nil, or_false] at hy
        rcases hy with rfl | rfl | rfl | rfl | rfl
        · exact .str hwp
        · exact p0.mono (by omega)
        · exact t1p.mono (by omega)
        · exact t2p.mono (by omega)
        · exact p7.mono (by omega)
      · rw [if_neg (by simpa using c), mTup_a, mCons_a, mVar_a]
        simp only [vAt_a, List.getElem?_cons_zero, List.getElem?_cons_succ]
        rw [mCons_a, mVar_a]
        simp only [vAt_a, List.getElem?_cons_zero, List.getElem?_cons_succ]
        rw [mCons_a, mVar_a]
        simp only [vAt_a, List.getElem?_cons_zero, List.getElem?_cons_succ]
        rw [mCons_a, mVar_a]
        simp only [vAt_a, List.getElem?_cons_zero, List.getElem?_cons_succ]
        rw [mNil_a]
        refine ⟨z4, endsOf_i (q2.out (.other w2 [.tup d0, termD t1, termD t2]) _ ⟨.mono (pd_list (k := 30) fun y hy => ?_) (by omega), hnot.1, hnot.2⟩ v6)⟩
        simp only [List.mem_cons, List.not_mem_nil, or_false] at hy
        rcases hy with rfl | rfl | rfl | rfl
        · exact .str hwp
        · exact p0.mono (by omega)
        · exact t1p.mono (by omega)
        · exact t2p.mono (by omega)
end TB
end L2.DL

namespace L2.DL
open PySem PySem.Spec PyProof.Rows
local macro_rules | `(tactic| walk_at "s") => `(tactic| try simp only [mNeNil_a, mEqNil_a, nilO_ref, mRevS_a, rvsO_str, okPy_nil, List.isEmpty_nil, List.isEmpty_cons, sqAsg_a, sqDrop_a, sqPar_a, sqPar3_a, sqRet_a, sqNext_a, sqSeq_a, sNext_a, sBreak_a, sCont_a, sDrop_a, sRet_a, sRetN_a, sIf_a, sAsg_a, sPar_a, sPar3_a, mVar_a, vAt_a, mC_a, mBin_a, mTest_a, bAt_a, mAnd_a, mOr_a, mNot_a, mYes_a, mAndV_a, mOrV_a, mNotV_a, mIf_a, mNil_a, mCons_a, mTup_a, mLst_a, mCall_a, mCallK_a, mMeth_a, mSl_a, mNoPart_a, iAt_a, mPart_a, mIsi_b, tysO_some, List.any_cons, List.any_nil, Bool.or_false, Bool.false_or, Bool.or_true, Bool.true_or, Int.natCast_pos, gN_a, gTup_a, gCons_a, gNil_a, gSub_a, sFor_a, mLc_a, mDc_a, wSeq_a, sqO_tup, sqO_str, sqO_ref, wRng1_a, wRng2_b, wRng3_b, wEnum_a, enO_tup, enO_ref, mRev_a, revO_ref, List.getD_cons_zero, List.getD_cons_succ, ite_self, List.set_cons_zero, List.set_cons_succ, List.getElem?_cons_zero, List.getElem?_cons_succ, oAdd_int, oAdd_str, oAdd_tup, oAdd_ref, oSub_int, oMul_int, oDiv_int, oMod_int, oPow_int, oLt_int, oLe_int, oGt_int, oGe_int, oIs_nn, oIs_bn, oIs_in, oIs_sn, oIs_tn, oIs_rn, oIs_bb, oIs_nb, oIs_ib, oIs_sb, oIs_tb, oIs_rb, oIsi_int, oIsi_str, oIsi_bool, oIsi_tuple, oIsi_list, oIsi_dict, tyO_some, tyD_non, tyD_bl, tyD_int, tyD_str, tyD_tup, isi_facts, oEq_int, oNe_int, oEq_str, oNe_str, oSl_tup, oSl_str, oSl_ref, oLen_tup, oLen_str, oLen_ref, oAbs_int, oInt_int, oInt_bl, oMax_int, oMin_int, oTuple_tup, oTuple_ref, oList_tup, oList_str, oList_ref, oIx_tupE, oIx_ref, oAppend_ref, oPop_ref, oExtend_tupE, oSet_ref, isL_ref, isS_str, vO_some, ixO_lst, ixO_dicI, ixO_dicS, ixO_rodI, ixO_rodS, lsO_lst, rdO_lst, rdO_rol, lenO_lst, lenO_dic, lenO_rol, addO_lst, setO_lst, setO_dicI, setO_dicS, atI_zero, atI_one, atI_two, atI_end, startE, wipeE, List.map_cons, List.map_nil, List.length_cons, List.length_nil, List.replicate, List.cons_append, List.nil_append, Nat.reduceAdd, Nat.reduceSub, List.replicate_succ, List.replicate_zero, put_same, Nat.zero_le, Int.reduceLT, Int.reduceLE, Nat.reduceLT, Nat.reduceLeDiff, and_true, true_and, Bool.false_eq_true, ↓reduceIte, Bool.not_true, Bool.not_false, decide_true, decide_false, *])
local macro_rules | `(tactic| walk_at "i") => `(tactic| try simp only [mNeNil_a, mEqNil_a, nilO_ref, mRevS_a, rvsO_str, okPy_nil, List.isEmpty_nil, List.isEmpty_cons, sqIf_a, sqAsg_a, sqDrop_a, sqPar_a, sqPar3_a, sqRet_a, sqNext_a, sqSeq_a, sNext_a, sBreak_a, sCont_a, sDrop_a, sRet_a, sRetN_a, sIf_a, sAsg_a, sPar_a, sPar3_a, mVar_a, vAt_a, mC_a, mBin_a, mTest_a, bAt_a, mAnd_a, mOr_a, mNot_a, mYes_a, mAndV_a, mOrV_a, mNotV_a, mIf_a, mNil_a, mCons_a, mTup_a, mLst_a, mCall_a, mCallK_a, mMeth_a, mSl_a, mNoPart_a, iAt_a, mPart_a, mIsi_b, tysO_some, List.any_cons, List.any_nil, Bool.or_false, Bool.false_or, Bool.or_true, Bool.true_or, Int.natCast_pos, gN_a, gTup_a, gCons_a, gNil_a, gSub_a, sFor_a, mLc_a, mDc_a, wSeq_a, sqO_tup, sqO_str, sqO_ref, wRng1_a, wRng2_b, wRng3_b, wEnum_a, enO_tup, enO_ref, mRev_a, revO_ref, List.getD_cons_zero, List.getD_cons_succ, ite_self, List.set_cons_zero, List.set_cons_succ, List.getElem?_cons_zero, List.getElem?_cons_succ, oAdd_int, oAdd_str, oAdd_tup, oAdd_ref, oSub_int, oMul_int, oDiv_int, oMod_int, oPow_int, oLt_int, oLe_int, oGt_int, oGe_int, oIs_nn, oIs_bn, oIs_in, oIs_sn, oIs_tn, oIs_rn, oIs_bb, oIs_nb, oIs_ib, oIs_sb, oIs_tb, oIs_rb, oIsi_int, oIsi_str, oIsi_bool, oIsi_tuple, oIsi_list, oIsi_dict, tyO_some, tyD_non, tyD_bl, tyD_int, tyD_str, tyD_tup, isi_facts, oEq_int, oNe_int, oEq_str, oNe_str, oSl_tup, oSl_str, oSl_ref, oLen_tup, oLen_str, oLen_ref, oAbs_int, oInt_int, oInt_bl, oMax_int, oMin_int, oTuple_tup, oTuple_ref, oList_tup, oList_str, oList_ref, oIx_tupE, oIx_ref, oAppend_ref, oPop_ref, oExtend_tupE, oSet_ref, isL_ref, isS_str, vO_some, ixO_lst, ixO_dicI, ixO_dicS, ixO_rodI, ixO_rodS, lsO_lst, rdO_lst, rdO_rol, lenO_lst, lenO_dic, lenO_rol, addO_lst, setO_lst, setO_dicI, setO_dicS, atI_zero, atI_one, atI_two, atI_end, startE, wipeE, List.map_cons, List.map_nil, List.length_cons, List.length_nil, List.replicate, List.cons_append, List.nil_append, Nat.reduceAdd, Nat.reduceSub, List.replicate_succ, List.replicate_zero, put_same, Nat.zero_le, Int.reduceLT, Int.reduceLE, Nat.reduceLT, Nat.reduceLeDiff, and_true, true_and, Bool.false_eq_true, ↓reduceIte, Bool.not_true, Bool.not_false, decide_true, decide_false, *])
namespace TB
def S_law_some_world : DSp := fun vs st Q => ∃ (n m : Addr), vs = [.ref n] ∧ Deal st n m ∧ ∀ (W : Wr) st', W.n = n → W.m = m → Nf st W.w → Wd st' W → Up n m st st' → Q (.ref W.w) st'
/-- _law_some_world(deal): 0 deal 1 names 2 letters -/
def t_law_some_world : MS := sSeq (sAsg (mCall S_law_names_but (mCons (mVar 0) (mCons (mBin oAdd (mC (.int 5)) (mCall S_law_any (mCons (mVar 0) (mCons (mC (.int 10)) (mNil))))) (mNil)))) (gN 1))
    (sSeq (sAsg (mCall S_law_names (mCons (mVar 0) (mCons (mC (.int 4)) (mNil)))) (gN 2))
    (sSeq (sIf (mTest (mBin oEq (mCall S_law_any (mCons (mVar 0) (mCons (mC (.int 2)) (mNil)))) (mC (.int 0)))) (sAsg (mIf (mTest (mBin oNotIn (mBin oIx (mVar 1) (mC (.int (-1)))) (mVar 2))) (mBin oIx (mVar 1) (mC (.int (-1)))) (mBin oIx (mVar 2) (mC (.int 0)))) (gSub (mVar 2) (mC (.int 0)) oSet)) (sNext))
    (sRet (mDisp ["sorts", "names", "letters", "rules left", "sorts left", "doers left"] (mCons (mSl (mVar 1) (mNoPart) (mPart (mC (.int 3)))) (mCons (mSl (mVar 1) (mPart (mC (.int 2))) (mNoPart)) (mCons (mVar 2) (mCons (mC (.int 14)) (mCons (mC (.int 8)) (mCons (mC (.int 16)) (mNil)))))))))))
theorem cut_to {l : List Str} {k : Nat} : cutL (l.map D.str) none (some ((k : Nat) : Int)) = (l.take k).map D.str := by
  unfold cutL HT.sIx
  simp only [List.drop_zero, Nat.sub_zero]
  rw [if_neg (by omega), Int.toNat_natCast, List.length_map, List.map_take, Nat.min_def]
  split
  · rfl
  · rw [List.take_of_length_le (by rw [List.length_map]; exact Nat.le_refl _), List.take_of_length_le (by rw [List.length_map]; omega)]
theorem cut_from {l : List Str} {k : Nat} (h : k ≤ l.length) : cutL (l.map D.str) (some ((k : Nat) : Int)) none = (l.drop k).map D.str := by
  unfold cutL HT.sIx
  simp only
  rw [if_neg (by omega), Int.toNat_natCast, List.length_map, Nat.min_eq_left h, List.map_drop]
  rw [List.take_of_length_le]
  rw [List.length_drop, List.length_map]
  exact Nat.le_refl _
theorem kp_law_some_world : Keeps 1 3 S_law_some_world t_law_some_world := by
  refine ⟨fun ds st Q ⟨n, m, e, _⟩ => by rw [e]; rfl, fun ds st Q ⟨n, m, e, hd, q⟩ => ?_⟩
  subst e
  have q2 := Hdn.mk q
  clear q
  unfold t_law_some_world
  have e0 : startE 3 [D.ref n] = [some (.ref n), none, none] := rfl
  rw [e0, sSeq_a, sAsg_a, mCall_a, mCons_a, mVar_a]
  simp only [vAt_a, List.getElem?_cons_zero, List.getElem?_cons_succ]
  rw [mCons_a, mBin_a, mC_a]
  refine any_c rfl hd (by omega) fun v v0 v1 st1 u1 => ?_
  obtain ⟨k, hk, hk5, hk14⟩ : ∃ k : Nat, 5 + v = (k : Int) ∧ 5 ≤ k ∧ k ≤ 14 := ⟨(5 + v).toNat, by omega, by omega, by omega⟩
  rw [oAdd_int, hk, mNil_a]
  refine ⟨n, m, k, rfl, u1.deal, by omega, fun names a st2 hnl hnm hn1 an am ha u2 la => ?_⟩
  dsimp only
  have w2 := u1.trans u2
  rw [gN_a]
  simp only [List.set_cons_zero, List.set_cons_succ]
  rw [sSeq_a, sAsg_a, mCall_a, mCons_a, mVar_a]
  simp only [vAt_a, List.getElem?_cons_zero, List.getElem?_cons_succ]
  rw [mCons_a, mC_a, mNil_a]
  refine ⟨n, m, 4, rfl, w2.deal, by omega, fun ls b st3 hll hlm hl1 _ bn bm hb u3 lb => ?_⟩
  dsimp only
  have w3 := w2.trans u3
  have la3 := u3.l an am la
  have ba : b ≠ a := hb.ne la
  have hb0 : Nf st b := hb.back w2 bn bm
  clear la u3 w2 u2 u1 hb
  rw [gN_a]
  simp only [List.set_cons_zero, List.set_cons_succ]
  refine sSeq_i (fun env st' => ∃ ls : List Str, env = [some (.ref n), some (.ref a), some (.ref b)] ∧ namesOk ls ∧ Up n m st st' ∧ st' a = some (.lst (names.map D.str)) ∧ st' b = some (.lst (ls.map D.str))) (fun nx hnx => ?_) ?_
  · rw [sIf_a, mTest_a, mBin_a]
    refine any_c rfl w3.deal (by omega) fun v v0 v1 st4 u4 => ?_
    have la4 := u4.l an am la3
    have lb4 := u4.l bn bm lb
    have w4 := w3.trans u4
    rw [mC_a, oEq_int, bAt_a]
    by_cases c : v = 0
    · rw [if_pos (by simpa using c)]
      obtain ⟨y, hy⟩ : ∃ y, names.getLast? = some y := by
        cases e : names.getLast? with
        | none =>
          rw [List.getLast?_eq_none_iff] at e
          rw [e] at hnl
          simp at hnl
          omega
        | some y => exact ⟨y, rfl⟩
      have hya : atI (names.map D.str) (-1) = some (.str y) := by rw [atI_end, List.getLast?_map, hy]; rfl
      have hym := List.mem_of_getLast? hy
      have set : ∀ z, nmOk z → 1 ≤ z.length → gSub (mVar 2) (mC (.int 0)) oSet (.str z) [some (.ref n), some (.ref a), some (.ref b)] st4 nx := fun z hz hz1 => by
        rw [gSub_a, mVar_a]
        simp only [vAt_a, List.getElem?_cons_zero, List.getElem?_cons_succ]
        rw [mC_a]
        refine oSet_l (j := 0) lb4 (by rw [List.length_map, hll]; rfl) (hnx _ _ ⟨ls.set 0 z, rfl, ⟨by rw [List.length_set]; omega, by rw [List.length_set]; omega, fun x hx => ?_⟩, w4.put hb0 bn bm, by rw [put_ne ba.symm]; exact la4, by rw [put_same, List.map_set]⟩)
        rcases List.mem_or_eq_of_mem_set hx with h | h
        · exact ⟨hlm x h, hl1 x h⟩
        · rw [h]; exact ⟨hz, hz1⟩
      rw [sAsg_a, mIf_a, mTest_a, mBin_a, mBin_a, mVar_a]
      simp only [vAt_a, List.getElem?_cons_zero, List.getElem?_cons_succ]
      rw [mC_a]
      refine oIx_l (xs := names.map D.str) (by rw [la4]; rfl) hya ?_
      rw [mVar_a]
      simp only [vAt_a, List.getElem?_cons_zero, List.getElem?_cons_succ]
      refine oNotIn_l (xs := ls.map D.str) (by rw [lb4]; rfl) rfl (flat_strs ls) ?_
      rw [inF_strs, bAt_a]
      by_cases c2 : y ∈ ls
      · rw [if_neg (by simp [c2]), mBin_a, mVar_a]
        simp only [vAt_a, List.getElem?_cons_zero, List.getElem?_cons_succ]
        rw [mC_a]
        obtain ⟨z, r, rfl⟩ : ∃ z r, ls = z :: r := by
          cases ls with
          | nil => cases c2
          | cons z r => exact ⟨z, r, rfl⟩
        refine oIx_l (xs := (z :: r).map D.str) (by rw [lb4]; rfl) (by rw [List.map_cons]; exact at0 _ _) ?_
        exact set z (hlm z (List.mem_cons_self ..)) (hl1 z (List.mem_cons_self ..))
      · rw [if_pos (by simp [c2]), mBin_a, mVar_a]
        simp only [vAt_a, List.getElem?_cons_zero, List.getElem?_cons_succ]
        rw [mC_a]
        refine oIx_l (xs := names.map D.str) (by rw [la4]; rfl) hya ?_
        exact set y (hnm y hym) (hn1 y hym)
    · rw [if_neg (by simpa using c), sNext_a]
      exact hnx _ _ ⟨ls, rfl, ⟨by omega, by omega, fun x hx => ⟨hlm x hx, hl1 x hx⟩⟩, w4, la4, lb4⟩
  · rintro env st4 ⟨ls, rfl, hls, w4, la4, lb4⟩
    clear la3 lb w3 hlm hl1 hll
    rw [sRet_a, mDisp_a]
    intro p hp
    have pd := hp.deal w4.deal
    have pa := hp.ne la4
    have pb := hp.ne lb4
    have hp0 := hp.back w4 pd.1 pd.2
    have la5 := (Keep.put (o := .dic []) hp).l la4
    have lb5 := (Keep.put (o := .dic []) hp).l lb4
    have w5 := w4.then (Keep.put (o := .dic []) hp)
    have lp5 : put st4 p (.dic []) p = some (.dic []) := put_same
    generalize put st4 p (.dic []) = st5 at *
    clear la4 lb4 w4 hp
    rw [mCons_a, mSl_a, mVar_a]
    simp only [vAt_a, List.getElem?_cons_zero, List.getElem?_cons_succ]
    rw [mNoPart_a, mPart_a, mC_a, iAt_a]
    refine oSl_l (xs := names.map D.str) (by rw [la5]; rfl) fun s1 hs1 => ?_
    rw [show (3 : Int) = ((3 : Nat) : Int) from rfl, cut_to]
    have sd := hs1.deal w5.deal
    have sp := hs1.neD lp5
    have la6 := (Keep.put (o := .lst ((names.take 3).map D.str)) hs1).l la5
    have lb6 := (Keep.put (o := .lst ((names.take 3).map D.str)) hs1).l lb5
    have lp6 : put st5 s1 (.lst ((names.take 3).map D.str)) p = some (.dic []) := by rw [put_ne sp.symm]; exact lp5
    have w6 := w5.then (Keep.put (o := .lst ((names.take 3).map D.str)) hs1)
    have ls6 : put st5 s1 (.lst ((names.take 3).map D.str)) s1 = some (.lst ((names.take 3).map D.str)) := put_same
    generalize put st5 s1 (.lst ((names.take 3).map D.str)) = st6 at *
    clear la5 lb5 lp5 w5 hs1
    rw [mCons_a, mSl_a, mVar_a]
    simp only [vAt_a, List.getElem?_cons_zero, List.getElem?_cons_succ]
    rw [mPart_a, mC_a, iAt_a, mNoPart_a]
    refine oSl_l (xs := names.map D.str) (by rw [la6]; rfl) fun s2 hs2 => ?_
    rw [show (2 : Int) = ((2 : Nat) : Int) from rfl, cut_from (by omega)]
    have sd2 := hs2.deal w6.deal
    have sp2 := hs2.neD lp6
    have ss2 := hs2.ne ls6
    have lb7 := (Keep.put (o := .lst ((names.drop 2).map D.str)) hs2).l lb6
    have ls7 := (Keep.put (o := .lst ((names.drop 2).map D.str)) hs2).l ls6
    have lp7 : put st6 s2 (.lst ((names.drop 2).map D.str)) p = some (.dic []) := by rw [put_ne sp2.symm]; exact lp6
    have w7 := w6.then (Keep.put (o := .lst ((names.drop 2).map D.str)) hs2)
    have lt7 : put st6 s2 (.lst ((names.drop 2).map D.str)) s2 = some (.lst ((names.drop 2).map D.str)) := put_same
    generalize put st6 s2 (.lst ((names.drop 2).map D.str)) = st7 at *
    clear la6 lb6 lp6 w6 hs2 ls6
    rw [mCons_a, mVar_a]
    simp only [vAt_a, List.getElem?_cons_zero, List.getElem?_cons_succ]
    rw [mCons_a, mC_a, mCons_a, mC_a, mCons_a, mC_a, mNil_a]
    refine ⟨lp7, rfl, ?_⟩
    have e9 : ((["sorts", "names", "letters", "rules left", "sorts left", "doers left"] : List Str).map Sum.inr).zip [D.ref s1, .ref s2, .ref b, .int 14, .int 8, .int 16] = [((.inr "sorts" : Key), D.ref s1), (.inr "names", .ref s2), (.inr "letters", .ref b), (.inr "rules left", .int 14), (.inr "sorts left", .int 8), (.inr "doers left", .int 16)] := rfl
    rw [e9]
    have w8 := w7.put (o := .dic [((.inr "sorts" : Key), D.ref s1), (.inr "names", .ref s2), (.inr "letters", .ref b), (.inr "rules left", .int 14), (.inr "sorts left", .int 8), (.inr "doers left", .int 16)]) hp0 pd.1 pd.2
    refine endsOf_i (q2.out ⟨n, m, p, s1, s2, b, names.take 3, names.drop 2, ls⟩ _ rfl rfl hp0 ⟨w8.deal, pd, ⟨14, 8, 16, put_same⟩, ⟨sd.1, sd.2, ?_⟩, ⟨sd2.1, sd2.2, ?_⟩, ⟨bn, bm, ?_⟩, ⟨?_, ?_, fun x hx => ?_⟩, ⟨?_, ?_, fun x hx => ?_⟩, hls⟩ w8)
    · show put st7 p _ s1 = _
      rw [put_ne sp]; exact ls7
    · show put st7 p _ s2 = _
      rw [put_ne sp2]; exact lt7
    · show put st7 p _ b = _
      rw [put_ne pb.symm]; exact lb7
    · show 0 < (names.take 3).length
      rw [List.length_take]; omega
    · show (names.take 3).length ≤ 20
      rw [List.length_take]; omega
    · exact ⟨hnm x (List.mem_of_mem_take hx), hn1 x (List.mem_of_mem_take hx)⟩
    · show 0 < (names.drop 2).length
      rw [List.length_drop]; omega
    · show (names.drop 2).length ≤ 20
      rw [List.length_drop]; omega
    · exact ⟨hnm x (List.mem_of_mem_drop hx), hn1 x (List.mem_of_mem_drop hx)⟩
end TB
end L2.DL

namespace L2.DL
open PySem PySem.Spec PyProof.Rows
local macro_rules | `(tactic| walk_at "s") => `(tactic| try simp only [mNeNil_a, mEqNil_a, nilO_ref, mRevS_a, rvsO_str, okPy_nil, List.isEmpty_nil, List.isEmpty_cons, sqAsg_a, sqDrop_a, sqPar_a, sqPar3_a, sqRet_a, sqNext_a, sqSeq_a, sNext_a, sBreak_a, sCont_a, sDrop_a, sRet_a, sRetN_a, sIf_a, sAsg_a, sPar_a, sPar3_a, mVar_a, vAt_a, mC_a, mBin_a, mTest_a, bAt_a, mAnd_a, mOr_a, mNot_a, mYes_a, mAndV_a, mOrV_a, mNotV_a, mIf_a, mNil_a, mCons_a, mTup_a, mLst_a, mCall_a, mCallK_a, mMeth_a, mSl_a, mNoPart_a, iAt_a, mPart_a, mIsi_b, tysO_some, List.any_cons, List.any_nil, Bool.or_false, Bool.false_or, Bool.or_true, Bool.true_or, Int.natCast_pos, gN_a, gTup_a, gCons_a, gNil_a, gSub_a, sFor_a, mLc_a, mDc_a, wSeq_a, sqO_tup, sqO_str, sqO_ref, wRng1_a, wRng2_b, wRng3_b, wEnum_a, enO_tup, enO_ref, mRev_a, revO_ref, List.getD_cons_zero, List.getD_cons_succ, ite_self, List.set_cons_zero, List.set_cons_succ, List.getElem?_cons_zero, List.getElem?_cons_succ, oAdd_int, oAdd_str, oAdd_tup, oAdd_ref, oSub_int, oMul_int, oDiv_int, oMod_int, oPow_int, oLt_int, oLe_int, oGt_int, oGe_int, oIs_nn, oIs_bn, oIs_in, oIs_sn, oIs_tn, oIs_rn, oIs_bb, oIs_nb, oIs_ib, oIs_sb, oIs_tb, oIs_rb, oIsi_int, oIsi_str, oIsi_bool, oIsi_tuple, oIsi_list, oIsi_dict, tyO_some, tyD_non, tyD_bl, tyD_int, tyD_str, tyD_tup, isi_facts, oEq_int, oNe_int, oEq_str, oNe_str, oSl_tup, oSl_str, oSl_ref, oLen_tup, oLen_str, oLen_ref, oAbs_int, oInt_int, oInt_bl, oMax_int, oMin_int, oTuple_tup, oTuple_ref, oList_tup, oList_str, oList_ref, oIx_tupE, oIx_ref, oAppend_ref, oPop_ref, oExtend_tupE, oSet_ref, isL_ref, isS_str, vO_some, ixO_lst, ixO_dicI, ixO_dicS, ixO_rodI, ixO_rodS, lsO_lst, rdO_lst, rdO_rol, lenO_lst, lenO_dic, lenO_rol, addO_lst, setO_lst, setO_dicI, setO_dicS, atI_zero, atI_one, atI_two, atI_end, startE, wipeE, List.map_cons, List.map_nil, List.length_cons, List.length_nil, List.replicate, List.cons_append, List.nil_append, Nat.reduceAdd, Nat.reduceSub, List.replicate_succ, List.replicate_zero, put_same, Nat.zero_le, Int.reduceLT, Int.reduceLE, Nat.reduceLT, Nat.reduceLeDiff, and_true, true_and, Bool.false_eq_true, ↓reduceIte, Bool.not_true, Bool.not_false, decide_true, decide_false, *])
local macro_rules | `(tactic| walk_at "i") => `(tactic| try simp only [mNeNil_a, mEqNil_a, nilO_ref, mRevS_a, rvsO_str, okPy_nil, List.isEmpty_nil, List.isEmpty_cons, sqIf_a, sqAsg_a, sqDrop_a, sqPar_a, sqPar3_a, sqRet_a, sqNext_a, sqSeq_a, sNext_a, sBreak_a, sCont_a, sDrop_a, sRet_a, sRetN_a, sIf_a, sAsg_a, sPar_a, sPar3_a, mVar_a, vAt_a, mC_a, mBin_a, mTest_a, bAt_a, mAnd_a, mOr_a, mNot_a, mYes_a, mAndV_a, mOrV_a, mNotV_a, mIf_a, mNil_a, mCons_a, mTup_a, mLst_a, mCall_a, mCallK_a, mMeth_a, mSl_a, mNoPart_a, iAt_a, mPart_a, mIsi_b, tysO_some, List.any_cons, List.any_nil, Bool.or_false, Bool.false_or, Bool.or_true, Bool.true_or, Int.natCast_pos, gN_a, gTup_a, gCons_a, gNil_a, gSub_a, sFor_a, mLc_a, mDc_a, wSeq_a, sqO_tup, sqO_str, sqO_ref, wRng1_a, wRng2_b, wRng3_b, wEnum_a, enO_tup, enO_ref, mRev_a, revO_ref, List.getD_cons_zero, List.getD_cons_succ, ite_self, List.set_cons_zero, List.set_cons_succ, List.getElem?_cons_zero, List.getElem?_cons_succ, oAdd_int, oAdd_str, oAdd_tup, oAdd_ref, oSub_int, oMul_int, oDiv_int, oMod_int, oPow_int, oLt_int, oLe_int, oGt_int, oGe_int, oIs_nn, oIs_bn, oIs_in, oIs_sn, oIs_tn, oIs_rn, oIs_bb, oIs_nb, oIs_ib, oIs_sb, oIs_tb, oIs_rb, oIsi_int, oIsi_str, oIsi_bool, oIsi_tuple, oIsi_list, oIsi_dict, tyO_some, tyD_non, tyD_bl, tyD_int, tyD_str, tyD_tup, isi_facts, oEq_int, oNe_int, oEq_str, oNe_str, oSl_tup, oSl_str, oSl_ref, oLen_tup, oLen_str, oLen_ref, oAbs_int, oInt_int, oInt_bl, oMax_int, oMin_int, oTuple_tup, oTuple_ref, oList_tup, oList_str, oList_ref, oIx_tupE, oIx_ref, oAppend_ref, oPop_ref, oExtend_tupE, oSet_ref, isL_ref, isS_str, vO_some, ixO_lst, ixO_dicI, ixO_dicS, ixO_rodI, ixO_rodS, lsO_lst, rdO_lst, rdO_rol, lenO_lst, lenO_dic, lenO_rol, addO_lst, setO_lst, setO_dicI, setO_dicS, atI_zero, atI_one, atI_two, atI_end, startE, wipeE, List.map_cons, List.map_nil, List.length_cons, List.length_nil, List.replicate, List.cons_append, List.nil_append, Nat.reduceAdd, Nat.reduceSub, List.replicate_succ, List.replicate_zero, put_same, Nat.zero_le, Int.reduceLT, Int.reduceLE, Nat.reduceLT, Nat.reduceLeDiff, and_true, true_and, Bool.false_eq_true, ↓reduceIte, Bool.not_true, Bool.not_false, decide_true, decide_false, *])
namespace TB
theorem Wd.put {st : Sto} {W : Wr} {p : Addr} {o : Ob} (h : Wd st W) (g : p ≠ W.n ∧ p ≠ W.m ∧ p ≠ W.w ∧ p ≠ W.sa ∧ p ≠ W.na ∧ p ≠ W.la) : Wd (DL.put st p o) W := by
  obtain ⟨r, s, d, e⟩ := h.at_
  obtain ⟨g1, g2, g3, g4, g5, g6⟩ := g
  exact ⟨h.deal.put g1 g2, h.wn, ⟨r, s, d, by rw [put_ne g3.symm]; exact e⟩, ⟨h.s.1, h.s.2.1, by rw [put_ne g4.symm]; exact h.s.2.2⟩, ⟨h.na.1, h.na.2.1, by rw [put_ne g5.symm]; exact h.na.2.2⟩, ⟨h.l.1, h.l.2.1, by rw [put_ne g6.symm]; exact h.l.2.2⟩, h.so, h.no, h.lo⟩
theorem Wd.apart {st : Sto} {W : Wr} {p : Addr} (h : Wd st W) (hp : Nf st p) : p ≠ W.n ∧ p ≠ W.m ∧ p ≠ W.w ∧ p ≠ W.sa ∧ p ≠ W.na ∧ p ≠ W.la := by
  obtain ⟨r, s, d, e⟩ := h.at_
  have pd := hp.deal h.deal
  exact ⟨pd.1, pd.2, hp.neD e, hp.ne h.s.2.2, hp.ne h.na.2.2, hp.ne h.l.2.2⟩
theorem UpW.put {W : Wr} {a b : Sto} {p : Addr} {o : Ob} (h : UpW W a b) (ha : Wd a W) (hp : Nf a p) : UpW W a (DL.put b p o) :=
  ⟨fun x u h1 h2 h3 hn e => by rw [put_ne (hp.not e hn)]; exact h.keep x u h1 h2 h3 hn e, h.wd.put (ha.apart hp)⟩
/-- behind draws that change the world's numbers -/
theorem lc_w {W : Wr} {env : Env} {g : MG} {mt : MT} {me : ME} {ws : List Nat} {xs : List D} {ok : Sto → Prop} {st1 : Sto} {Q : DK} (F : D → Option D → Prop) (hW : Wd st1 W) (hok : ∀ st', UpW W st1 st' → ok st') (hl : xs.length ≤ sizeLine)
    (turn : ∀ x ∈ xs, ∀ st2, UpW W st1 st2 → ∀ (P : DK) (N : Sto → Prop), (∀ y st3, F x (some y) → UpW W st2 st3 → P y st3) → (∀ st3, F x none → UpW W st2 st3 → N st3) → g x (wipeE env ws) st2 fun env2 st3 => mt env2 st3 fun b st4 => if b = true then me env2 st4 P else N st4)
    (fin : ∀ p ys st', Nf st1 p → Fm F xs ys → UpW W st1 st' → st' p = some (.lst ys) → Q (.ref p) st') :
    lcO xs ok g mt me ws env st1 Q := by
  intro p hp
  obtain ⟨pn, pm, pw, _⟩ := hW.apart hp
  refine ⟨fun i acc st => Fm F (xs.take i) acc ∧ UpW W st1 st ∧ st p = some (.lst acc), ⟨by simpa using Fm.nil, (UpW.of hW (.refl hW.deal)).put hW hp, put_same⟩, fun i acc st _ ⟨_, u, e⟩ => ⟨hok st u, e⟩, fun i acc x st hx ⟨hf, u, e⟩ => ?_, fun acc st ⟨hf, u, e⟩ => fin p acc st hp (by simpa using hf) u e⟩
  have hlen : acc.length < sizeLine := by
    have h1 := hf.len
    have h2 : i < xs.length := by
      have := List.getElem?_eq_some_iff.mp hx
      exact this.1
    rw [List.length_take] at h1
    omega
  refine turn x (List.mem_of_getElem? hx) st u _ _ (fun y st5 h1 h2 => ?_) (fun st5 h1 h2 => ?_)
  · refine ⟨h2.keep _ _ pn pm pw trivial e, hlen, ?_, (u.trans h2).put hW hp, put_same⟩
    rw [take_snoc hx]
    exact hf.snoc h1
  · refine ⟨?_, u.trans h2, h2.keep _ _ pn pm pw trivial e⟩
    rw [take_snoc hx]
    exact hf.skip h1
theorem Fm.lines {xs ys : List D} (h : Fm (fun _ o => ∃ l, o = some (lnD l) ∧ LnOk l) xs ys) : ∃ ls : List Ln, ys = ls.map lnD ∧ ls.length = xs.length ∧ ∀ l ∈ ls, LnOk l := by
  induction h with
  | nil => exact ⟨[], rfl, rfl, fun _ h => by cases h⟩
  | yes a _ ih =>
    obtain ⟨ls, rfl, h1, h2⟩ := ih
    obtain ⟨l, e, p⟩ := a
    cases e
    refine ⟨l :: ls, rfl, by simp [h1], fun t ht => ?_⟩
    rcases List.mem_cons.mp ht with rfl | ht
    · exact p
    · exact h2 t ht
  | no a _ _ =>
    obtain ⟨s, e, _⟩ := a
    cases e
theorem wDs_strs : ∀ l : List Str, wD.wDs (l.map D.str) = l.length
  | [] => rfl
  | x :: l => by rw [List.map_cons, wD.wDs, wDs_strs l, List.length_cons, show wD (.str x) = 1 from rfl]; omega
theorem okP_names {l : List Str} (h : l.length ≤ 1000) : okP (.tup (l.map D.str)) := by
  refine ⟨datDs_of fun e he => ?_, ?_, ?_⟩
  · obtain ⟨y, _, rfl⟩ := List.mem_map.mp he
    rfl
  · have : depC.depCs (l.map D.str) = 0 := by
      clear h
      induction l with
      | nil => rfl
      | cons x l ih => rw [List.map_cons, depC.depCs, ih]; rfl
    show depC.depCs (l.map D.str) + 1 ≤ 6
    omega
  · show 1 + wD.wDs (l.map D.str) ≤ _
    rw [wDs_strs]
    omega
theorem lotS_len (L : List Str) : (lotS L).length ≤ L.length := by
  have h1 := ddS_len (sortBy id L) []
  have h2 : (sortBy id L).length = L.length := (sortBy_perm id L).length_eq
  unfold lotS
  simp only [List.length_nil] at h1
  omega
section
variable {env : Env} {st : Sto} {Q : DK} {ls : List Ln} {j : Nat}
theorem tb_c {m : MA} (hm : ∀ Q : List D → Sto → Prop, Q [.tup (ls.map lnD)] st → m env st Q) (h : ∀ l ∈ ls, LnOk l) (hl : ls.length ≤ 8) (q : ∀ st', Keep st st' → Q (.tup ((lotS (touchL ls)).map D.str)) st') : mCall S_touched_by m env st Q := by
  rw [mCall_a]
  refine hm _ ⟨ls, rfl, h, hl, fun st' k => ?_⟩
  rw [touch_eq h]
  exact q st' k
theorem tbk_c {m : ME} (hm : ∀ Q : DK, Q (.tup (ls.map lnD)) st → m env st Q) (h : ∀ l ∈ ls, LnOk l) (hl : ls.length ≤ 8) (q : ∀ st', Keep st st' → Q (.tup ((lotS (touchL ls)).map D.str)) st') : mCallK 1 [0] S_touched_by (mCons (mRevT m) (mNil)) env st Q := by
  rw [mCallK_a, mCons_a, mRevT_a]
  refine hm _ ?_
  rw [rvtO_tup, mNil_a]
  refine ⟨rfl, ls.reverse, ?_, fun l hl => h l (List.mem_reverse.mp hl), by rw [List.length_reverse]; exact hl, fun st' k => ?_⟩
  · simp [List.map_reverse]
  · rw [touch_rev h]
    exact q st' k
end
def S_law : DSp := fun vs st Q => ∃ (a : Addr) (ns : List Int), vs = [.ref a] ∧ st a = some (.rol (ns.map D.int)) ∧ ∀ st', Q (.bl true) st'
/-- law(script): 0 script 1 deal 2 pairs 3 turn 4 world 5 lines 6 line -/
def t_law : MS := sSeq (sAsg (mTup (mCons (mCall S_law_deal (mCons (mVar 0) (mCons (mC (.int 67)) (mNil)))) (mCons (mLst (mNil)) (mNil)))) (gTup 2 (gCons (gN 1) (gCons (gN 2) (gNil)))))
    (sSeq (sFor (wRng1 (mC (.int 5))) (gN 3) (sSeq (sAsg (mCall S_law_some_world (mCons (mVar 1) (mNil))) (gN 4))
    (sSeq (sAsg (mCall oTuple (mCons (mLc (wRng1 (mCall S_law_few (mCons (mVar 1) (mCons (mC (.int 5)) (mNil))))) (gN 6) (mYes) (mCall S_law_some_line (mCons (mVar 1) (mCons (mVar 4) (mNil)))) [6]) (mNil))) (gN 5))
    (sSeq (sAsg (mBin oAdd (mVar 2) (mLst (mCons (mTup (mCons (mCall S_touched_by (mCons (mVar 5) (mNil))) (mCons (mCall S_law_touched (mCons (mVar 5) (mNil))) (mNil)))) (mCons (mTup (mCons (mCallK 1 [0] S_touched_by (mCons (mRevT (mVar 5)) (mNil))) (mCons (mCall S_law_touched (mCons (mVar 5) (mNil))) (mNil)))) (mNil))))) (gN 2))
    (sFor (wSeq (mVar 5)) (gN 6) (sDrop (mMeth isL oAppend (mVar 2) (mCons (mTup (mCons (mCall S_touched_by (mCons (mTup (mCons (mVar 6) (mNil))) (mNil))) (mCons (mCall S_law_touched (mCons (mLst (mCons (mVar 6) (mNil))) (mNil))) (mNil)))) (mNil)))))))))
    (sRet (mCall S_law_all (mCons (mVar 2) (mNil)))))
theorem kp_law : Keeps 1 7 S_law t_law := by
  refine ⟨fun ds st Q ⟨a, ns, e, _⟩ => by rw [e]; rfl, fun ds st Q ⟨a, ns, e, la, q⟩ => ?_⟩
  subst e
  have z0 : 0 ≤ sizeLine := by decide
  have z1 : [D.non].length ≤ sizeLine := by decide
  have z2 : [D.non, D.non].length ≤ sizeLine := by decide
  have q2 := Hdn.mk q
  clear q
  unfold t_law
  refine sSeq_t fun T hT => ?_
  walk_at "s"
  refine ⟨a, ns, 67, rfl, la, by omega, by omega, fun n m st1 hd => ?_⟩
  clear la
  walk_at "s"
  intro p hp
  have pd := hp.deal hd
  have lp : put st1 p (.lst []) p = some (.lst (([] : List D).map twice)) := put_same
  have hd2 : Deal (put st1 p (.lst [])) n m := hd.put pd.1 pd.2
  generalize put st1 p (.lst []) = st2 at *
  clear hp hd
  subst hT
  refine ⟨by decide, ?_⟩
  refine sSeq_i (fun env st' => ∃ g3 g4 g5 g6, ∃ (p : Addr) (ds : List D), env = [some (.ref a), some (.ref n), some (.ref p), g3, g4, g5, g6] ∧ st' p = some (.lst (ds.map twice)) ∧ ds.length ≤ 100 ∧ ∀ d ∈ ds, okP d) (fun nx hnx => ?_) ?_
  · rw [sFor_a, wRng1_a, mC_a, iAt_a]
    refine ⟨by omega, fun i env st' => ∃ g3 g4 g5 g6, ∃ (p : Addr) (ds : List D), env = [some (.ref a), some (.ref n), some (.ref p), g3, g4, g5, g6] ∧ Deal st' n m ∧ (p ≠ n ∧ p ≠ m) ∧ st' p = some (.lst (ds.map twice)) ∧ ds.length ≤ i * 7 ∧ ∀ d ∈ ds, okP d, ⟨none, none, none, none, p, [], rfl, hd2, pd, lp, Nat.zero_le _, fun d h => absurd h List.not_mem_nil⟩, fun _ _ _ _ _ => trivial, ?_, ?_⟩
    · rintro i x env st3 hx ⟨g3, g4, g5, g6, p, ds, rfl, hd3, pd, lp3, hdl, hds⟩
      have hi5 : i < 5 := by
        obtain ⟨hk, _⟩ := rangeD_get hx
        exact hk
      clear hnx lp hd2
      rw [gN_a]
      simp only [List.set_cons_zero, List.set_cons_succ]
      rw [sSeq_a, sAsg_a, mCall_a, mCons_a, mVar_a]
      simp only [vAt_a, List.getElem?_cons_zero, List.getElem?_cons_succ]
      rw [mNil_a]
      refine ⟨n, m, rfl, hd3, fun W st4 en em hw hW u4 => ?_⟩
      have lp4 := u4.l pd.1 pd.2 lp3
      have wp : W.w ≠ p := hw.ne lp3
      subst en em
      clear hd3 lp3 hw u4
      dsimp only
      rw [gN_a]
      simp only [List.set_cons_zero, List.set_cons_succ]
      rw [sSeq_a, sAsg_a, mCall_a, mCons_a, mLc_a, wRng1_a, mCall_a, mCons_a, mVar_a]
      simp only [vAt_a, List.getElem?_cons_zero, List.getElem?_cons_succ]
      rw [mCons_a, mC_a, mNil_a]
      refine ⟨W.n, W.m, 5, rfl, hW.deal, by omega, by omega, fun k st5 k1 k5 u5 => ?_⟩
      have lp5 := u5.l pd.1 pd.2 lp4
      have hW5 := hW.up u5
      clear lp4 hW u5
      dsimp only
      rw [iAt_a]
      refine ⟨by omega, lc_w (fun _ o => ∃ l, o = some (lnD l) ∧ LnOk l) hW5 (fun _ _ => trivial) (by rw [rangeD_len, szL]; omega) (fun y hy st6 u6 P N hP hN => ?_) fun r ys st6 hr hF u6 lr => ?_⟩
      · rw [gN_a, mYes_a, if_pos rfl, mCall_a, mCons_a, mVar_a]
        simp only [wipeE, List.foldl_cons, List.foldl_nil, List.set_cons_zero, List.set_cons_succ, vAt_a, List.getElem?_cons_zero, List.getElem?_cons_succ]
        rw [mCons_a, mVar_a]
        simp only [vAt_a, List.getElem?_cons_zero, List.getElem?_cons_succ]
        rw [mNil_a]
        exact ⟨W, rfl, u6.wd, fun l st7 hl u7 => hP _ _ ⟨l, rfl, hl⟩ u7⟩
      obtain ⟨ls, rfl, hll, hls⟩ := Fm.lines hF
      rw [rangeD_len] at hll
      have hl5 : ls.length ≤ 5 := by omega
      have lp6 := u6.keep p (.lst (ds.map twice)) pd.1 pd.2 (Ne.symm wp) trivial lp5
      have hd6 := u6.wd.deal
      rw [mNil_a]
      refine oTuple_l (by rw [lr]; rfl) ?_
      clear hF lr hr u6 hW5 lp5 hll k1 k5
      rw [gN_a]
      simp only [List.set_cons_zero, List.set_cons_succ]
      have okr : ∀ ls' : List Ln, (∀ l ∈ ls', LnOk l) → ls'.length ≤ 8 → okP (.tup ((lotS (touchL ls')).map D.str)) := fun ls' h h8 => okP_names (by
        have h1 := lotS_len (touchL ls')
        have h2 := touchL_len h
        omega)
      -- the lines in a row
      refine sSeq_i (fun env st' => ∃ (p : Addr) (ds : List D), env = [some (.ref a), some (.ref W.n), some (.ref p), some x, some (.ref W.w), some (.tup (ls.map lnD)), g6] ∧ Deal st' W.n W.m ∧ (p ≠ W.n ∧ p ≠ W.m) ∧ st' p = some (.lst (ds.map twice)) ∧ ds.length ≤ i * 7 + 2 ∧ ∀ d ∈ ds, okP d) (fun nx1 hnx1 => ?_) ?_
      · have hok := okr ls hls (by omega)
        have hlv : ∀ (st' : Sto) (Q : DK), Q (.tup (ls.map lnD)) st' → mVar 5 [some (.ref a), some (.ref W.n), some (.ref p), some x, some (.ref W.w), some (.tup (ls.map lnD)), g6] st' Q := fun st' Q hQ => by
          rw [mVar_a]
          exact hQ
        have hlaw : ∀ (st' : Sto) (Q : DK), (∀ st2, Keep st' st2 → Q (.tup ((lotS (touchL ls)).map D.str)) st2) → mCall S_law_touched (mCons (mVar 5) (mNil)) [some (.ref a), some (.ref W.n), some (.ref p), some x, some (.ref W.w), some (.tup (ls.map lnD)), g6] st' Q := fun st' Q hQ => by
          rw [mCall_a, mCons_a]
          refine hlv _ _ ?_
          rw [mNil_a]
          exact ⟨_, ls, rfl, .inl rfl, hls, by omega, hQ⟩
        rw [sAsg_a, mBin_a, mVar_a]
        simp only [vAt_a, List.getElem?_cons_zero, List.getElem?_cons_succ]
        rw [mLst_a, mCons_a, mTup_a, mCons_a]
        refine tb_c (ls := ls) (fun Q hQ => by rw [mCons_a]; exact hlv _ _ hQ) hls (by omega) fun st7 k7 => ?_
        rw [mCons_a]
        refine hlaw _ _ fun st8 k8 => ?_
        rw [mNil_a]
        refine ⟨z2, ?_⟩
        rw [mCons_a, mTup_a, mCons_a]
        refine tbk_c (ls := ls) (fun Q hQ => hlv _ _ hQ) hls (by omega) fun st9 k9 => ?_
        rw [mCons_a]
        refine hlaw _ _ fun st10 k10 => ?_
        rw [mNil_a]
        refine ⟨z2, ?_⟩
        rw [mNil_a]
        have kk := ((k7.trans k8).trans k9).trans k10
        have lp10 := kk.l lp6
        have hd10 := hd6.keep kk
        generalize D.tup ((lotS (touchL ls)).map D.str) = R at *
        refine ⟨z2, fun s hs => ?_⟩
        have sp : s ≠ p := hs.ne lp10
        have sd := hs.deal hd10
        refine oAdd_lst (xs := ds.map twice) (ys := [.tup [R, R], .tup [R, R]]) (by rw [put_ne sp.symm]; exact lp10) put_same (by rw [List.length_map, szL]; simp; omega) fun t ht => ?_
        rw [gN_a]
        have hd11 := hd10.put (o := .lst [.tup [R, R], .tup [R, R]]) sd.1 sd.2
        have td := ht.deal hd11
        refine hnx1 _ _ ⟨t, ds ++ [R, R], rfl, hd11.put td.1 td.2, td, ?_, by rw [List.length_append]; simp; omega, fun d hd => ?_⟩
        · rw [put_same, List.map_append]
          rfl
        · rcases List.mem_append.mp hd with hd | hd
          · exact hds d hd
          · simp only [List.mem_cons, List.not_mem_nil, or_false, or_self] at hd
            rw [hd]; exact hok
      · clear lp6 hd6 hds hdl pd
        rintro env st7 ⟨p, ds, rfl, hd7, pd, lp7, hdl, hds⟩
        rw [sFor_a, wSeq_a, mVar_a]
        simp only [vAt_a, List.getElem?_cons_zero, List.getElem?_cons_succ]
        rw [sqO_tup]
        refine ⟨fun j env st' => ∃ g6, ∃ ds : List D, env = [some (.ref a), some (.ref W.n), some (.ref p), some x, some (.ref W.w), some (.tup (ls.map lnD)), g6] ∧ Deal st' W.n W.m ∧ st' p = some (.lst (ds.map twice)) ∧ ds.length ≤ i * 7 + 2 + j ∧ ∀ d ∈ ds, okP d, ⟨g6, ds, rfl, hd7, lp7, by omega, hds⟩, fun _ _ _ _ _ => trivial, ?_, ?_⟩
        · clear lp7 hd7 hdl hds ds
          rintro j z env st8 hz ⟨g6, ds, rfl, hd8, lp8, hdl, hds⟩
          rw [List.getElem?_map, Option.map_eq_some_iff] at hz
          obtain ⟨l, hlj, rfl⟩ := hz
          have hlo := hls l (List.mem_of_getElem? hlj)
          have hj : j < ls.length := (List.getElem?_eq_some_iff.mp hlj).1
          have hlo1 : ∀ l' ∈ [l], LnOk l' := fun l' h => by rw [List.mem_singleton.mp h]; exact hlo
          have hok := okr [l] hlo1 (by simp)
          rw [gN_a]
          simp only [List.set_cons_zero, List.set_cons_succ]
          rw [sDrop_a, mMeth_a, mVar_a]
          simp only [vAt_a, List.getElem?_cons_zero, List.getElem?_cons_succ]
          refine ⟨⟨p, _, rfl, by rw [lp8]; rfl⟩, ?_⟩
          rw [mCons_a, mTup_a, mCons_a]
          refine tb_c (ls := [l]) (fun Q hQ => by
            rw [mCons_a, mTup_a, mCons_a, mVar_a]
            simp only [vAt_a, List.getElem?_cons_zero, List.getElem?_cons_succ]
            rw [mNil_a]
            refine ⟨z1, ?_⟩
            rw [mNil_a]
            exact hQ) hlo1 (by simp) fun st9 k9 => ?_
          rw [mCons_a, mCall_a, mCons_a, mLst_a, mCons_a, mVar_a]
          simp only [vAt_a, List.getElem?_cons_zero, List.getElem?_cons_succ]
          rw [mNil_a]
          refine ⟨z1, fun s hs => ?_⟩
          rw [mNil_a]
          refine ⟨_, [l], rfl, .inr ⟨s, rfl, put_same⟩, hlo1, by simp, fun st10 k10 => ?_⟩
          dsimp only
          rw [mNil_a]
          refine ⟨z2, ?_⟩
          rw [mNil_a]
          have kk := (k9.new (o := .lst [lnD l]) hs).trans k10
          have lp10 := kk.l lp8
          refine oAppend_l lp10 (by rw [List.length_map, szL]; omega) ?_
          generalize D.tup ((lotS (touchL [l])).map D.str) = R at *
          refine ⟨_, ds ++ [R], rfl, (hd8.keep kk).put pd.1 pd.2, ?_, by rw [List.length_append]; simp; omega, fun d hd => ?_⟩
          · rw [put_same, List.map_append]
            rfl
          · rcases List.mem_append.mp hd with hd | hd
            · exact hds d hd
            · rw [List.mem_singleton.mp hd]; exact hok
        · clear lp7 hd7 hdl hds ds
          rintro env st8 ⟨g6, ds, rfl, hd8, lp8, hdl, hds⟩
          rw [List.length_map] at hdl
          exact ⟨_, _, _, _, p, ds, rfl, hd8, pd, lp8, by omega, hds⟩
    · rintro env st3 ⟨g3, g4, g5, g6, p, ds, rfl, hd3, pd, lp3, hdl, hds⟩
      rw [rangeD_len] at hdl
      refine hnx _ _ ⟨_, _, _, _, p, ds, rfl, lp3, ?_, hds⟩
      have : (5 : Int).toNat = 5 := rfl
      omega
  · rintro env st3 ⟨g3, g4, g5, g6, p, ds, rfl, lp3, hdl, hds⟩
    rw [sRet_a, mCall_a, mCons_a, mVar_a]
    simp only [vAt_a, List.getElem?_cons_zero, List.getElem?_cons_succ]
    rw [mNil_a]
    exact ⟨p, ds, rfl, lp3, by omega, hds, fun st' _ => endsOf_i (q2.out st')⟩
end TB
end L2.DL

namespace L2.DL
open PySem PySem.Spec PyProof.Rows
namespace TB
theorem law_spec : ∀ (a : Addr) (ns : List Int), ns.length ≤ 63 → S_law [.ref a] (put (fun _ => none) a (.rol (ns.map D.int))) (fun d _ => d = .bl true) :=
  fun a ns _ => ⟨a, ns, rfl, put_same, fun _ => rfl⟩
end TB
end L2.DL

namespace L2.DL
namespace TB
open PySem PySem.Spec PyProof.Rows
def top (i : Nat) : Stmt := PySem.Challenge.pw_ownrules_k67_names_that_lines_touch.main.body.getD i (.Pass ⟨0, 0, 0, 0⟩)
/-- what the top tells of names -/
structure Tx (K : PySem.W.Frag) (mg : Str → Option Value) : Prop where
  n_abs : mg "abs" = none
  n_bool : mg "bool" = none
  n_int : mg "int" = none
  n_isinstance : mg "isinstance" = none
  n_len : mg "len" = none
  n_list : mg "list" = none
  n_min : mg "min" = none
  n_range : mg "range" = none
  n_set : mg "set" = none
  n_sorted : mg "sorted" = none
  n_str : mg "str" = none
  n_tuple : mg "tuple" = none
  c_LETTER : ∃ t, mg "LETTER" = some (.int (-1) t)
  c_ALL : ∃ t, mg "ALL" = some (.str "all" t)
  c_TELLING : ∃ a, mg "TELLING" = some (.ref a) ∧ ∀ H, SqT K H a ((["sort", "open", "make", "do", "word"] : List Str).map V.str)
section
variable {P : Program} {w : World} {K : PySem.W.Frag} {mg : Str → Option Value} {base : Heap}
abbrev s_names_of : Stmt := top 2
abbrev N_names_of : List Str := ["term", "name", "many"]
abbrev P_names_of : List Str := ["term"]
theorem sc_names_of : FnScope N_names_of P_names_of (defScope s_names_of) := ⟨rfl, rfl, rfl, by decide +kernel, rfl, by decide +kernel, by decide +kernel⟩
theorem d_names_of (T : Tx K mg) {f : Addr} {cdv : Value} {A : Around} {outer : List PySem.Env} {s : Shared} {H : Hp} {E : XK} (hr : Room 0 (A.deeper (envOfC "names_of" (defScope s_names_of) s.heap.objs.size f cdv))) :
    DSs (cxOf CX0 P w K mg base N_names_of "names_of" (defScope s_names_of) f cdv A outer s H E).nox (defBody s_names_of) t_names_of := by
  exact dss_one (ds_ret (de_callTy dc_tuple rfl T.n_tuple boot_tuple (da_cons (de_sortSc rfl rfl T.n_sorted sc_names_of.nd (di_seq (dv 0)) (blkOk_by (N := N_names_of) (sc := defScope s_names_of) (own := [("name", 1), ("many", 2)]) (by decide +kernel)) (fun _ _ _ _ _ => dgc_tup rfl (dgsc_cons (dgc_name (i := 1) sc_names_of.nd rfl (by first | exact Or.inl rfl | exact Or.inr rfl) (by decide)) (dgsc_cons (dgc_name (i := 2) sc_names_of.nd rfl (by first | exact Or.inl rfl | exact Or.inr rfl) (by decide)) (dgsc_nil)))) (fun _ _ _ _ _ => dts_one (dt_cmp (do_ne hr.units) (dv 2) (de_gint T.c_LETTER) (nomark _))) (fun _ _ _ _ _ => dv 1)) (da_nil))))
theorem ok_names_of (T : Tx K mg) {f : Addr} {fd : FuncData} (F : FunD K "names_of" "names_of" (defArgs s_names_of) (defBody s_names_of) (defScope s_names_of) [] [] f fd) (hm : mg "names_of" = some (.ref f)) : Cal P w K mg base 1 "names_of" P_names_of S_names_of :=
  ⟨f, fd, hm, F.kp, F.bindsN (fun _ _ _ _ _ _ us hl => match us, hl with | [_], _ => rfl), F.ok sc_names_of (fun vs H Q E h => keeps_len kp_names_of h) (fun cdv A outer s H vs Q E hr h => ⟨liftS K t_names_of, PSs.nox (d_names_of T  hr).pss, keeps_use (N := N_names_of) kp_names_of h⟩)⟩
abbrev s_told_name : Stmt := top 5
abbrev N_told_name : List Str := ["line"]
abbrev P_told_name : List Str := ["line"]
theorem sc_told_name : FnScope N_told_name P_told_name (defScope s_told_name) := ⟨rfl, rfl, rfl, by decide +kernel, rfl, by decide +kernel, by decide +kernel⟩
theorem d_told_name (T : Tx K mg) {f : Addr} {cdv : Value} {A : Around} {outer : List PySem.Env} {s : Shared} {H : Hp} {E : XK} (hr : Room 0 (A.deeper (envOfC "told_name" (defScope s_told_name) s.heap.objs.size f cdv))) :
    DSs (cxOf CX0 P w K mg base N_told_name "told_name" (defScope s_told_name) f cdv A outer s H E).nox (defBody s_told_name) t_told_name := by
  exact dss_one (ds_ret (de_ifExp (dt_cmp (do_in (hu_of hr)) (de_ix (di_all (hu_of hr)) (dv 0) (de_int)) (de_gtup (ns := ["sort", "open", "make", "do", "word"]) T.c_TELLING) (by rfl)) (de_ix (di_all (hu_of hr)) (dv 0) (de_int)) (de_str)))
theorem ok_told_name (T : Tx K mg) {f : Addr} {fd : FuncData} (F : FunD K "told_name" "told_name" (defArgs s_told_name) (defBody s_told_name) (defScope s_told_name) [] [] f fd) (hm : mg "told_name" = some (.ref f)) : Cal P w K mg base 1 "told_name" P_told_name S_told_name :=
  ⟨f, fd, hm, F.kp, F.bindsN (fun _ _ _ _ _ _ us hl => match us, hl with | [_], _ => rfl), F.ok sc_told_name (fun vs H Q E h => keeps_len kp_told_name h) (fun cdv A outer s H vs Q E hr h => ⟨liftS K t_told_name, PSs.nox (d_told_name T  hr).pss, keeps_use (N := N_told_name) kp_told_name h⟩)⟩
abbrev s_left_names : Stmt := top 6
abbrev N_left_names : List Str := ["lines", "found", "line"]
abbrev P_left_names : List Str := ["lines"]
theorem sc_left_names : FnScope N_left_names P_left_names (defScope s_left_names) := ⟨rfl, rfl, rfl, by decide +kernel, rfl, by decide +kernel, by decide +kernel⟩
theorem d_left_names (T : Tx K mg) (C_names_of : Cal P w K mg base 1 "names_of" P_names_of S_names_of) {f : Addr} {cdv : Value} {A : Around} {outer : List PySem.Env} {s : Shared} {H : Hp} {E : XK} (hr : Room 1 (A.deeper (envOfC "left_names" (defScope s_left_names) s.heap.objs.size f cdv))) :
    DSs (cxOf CX0 P w K mg base N_left_names "left_names" (defScope s_left_names) f cdv A outer s H E).nox (defBody s_left_names) t_left_names := by
  exact dss_cons (ds_set (i := 1) sc_left_names.nd rfl (Or.inl rfl) (de_lst (da_nil)))
    (dss_cons (ds_for PassesOwn.never rfl (di_seq (dv 0)) (dg_name (i := 2) sc_left_names.nd rfl (Or.inl rfl)) (dss_one (ds_if (dt_cmp (do_eq hr.units) (de_ix (di_all (hu_of hr)) (dv 2) (de_int)) (de_str) (nomark _)) (dss_one (ds_expr (de_m PySem.F.plainAttrs_list PySem.F.slot_list_extend PySem.F.type_list_extend ty_list dm_extend (dv 1) (da_cons (dcall C_names_of hr (by decide) (da_cons (de_ix (di_all (hu_of hr)) (dv 2) (de_int)) (da_nil))) (da_nil))))) (dss_nil))))
    (dss_one (ds_ret (dv 1))))
theorem ok_left_names (T : Tx K mg) (C_names_of : Cal P w K mg base 1 "names_of" P_names_of S_names_of) {f : Addr} {fd : FuncData} (F : FunD K "left_names" "left_names" (defArgs s_left_names) (defBody s_left_names) (defScope s_left_names) [] [] f fd) (hm : mg "left_names" = some (.ref f)) : Cal P w K mg base 2 "left_names" P_left_names S_left_names :=
  ⟨f, fd, hm, F.kp, F.bindsN (fun _ _ _ _ _ _ us hl => match us, hl with | [_], _ => rfl), F.ok sc_left_names (fun vs H Q E h => keeps_len kp_left_names h) (fun cdv A outer s H vs Q E hr h => ⟨liftS K t_left_names, PSs.nox (d_left_names T C_names_of hr).pss, keeps_use (N := N_left_names) kp_left_names h⟩)⟩
abbrev s_touched_by : Stmt := top 9
abbrev N_touched_by : List Str := ["lines", "found", "line"]
abbrev P_touched_by : List Str := ["lines"]
theorem sc_touched_by : FnScope N_touched_by P_touched_by (defScope s_touched_by) := ⟨rfl, rfl, rfl, by decide +kernel, rfl, by decide +kernel, by decide +kernel⟩
theorem d_touched_by (T : Tx K mg) (C_left_names : Cal P w K mg base 2 "left_names" P_left_names S_left_names) (C_told_name : Cal P w K mg base 1 "told_name" P_told_name S_told_name) {f : Addr} {cdv : Value} {A : Around} {outer : List PySem.Env} {s : Shared} {H : Hp} {E : XK} (hr : Room 2 (A.deeper (envOfC "touched_by" (defScope s_touched_by) s.heap.objs.size f cdv))) :
    DSs (cxOf CX0 P w K mg base N_touched_by "touched_by" (defScope s_touched_by) f cdv A outer s H E).nox (defBody s_touched_by) t_touched_by := by
  exact dss_cons (ds_set (i := 1) sc_touched_by.nd rfl (Or.inl rfl) (dcall C_left_names hr (by decide) (da_cons (dv 0) (da_nil))))
    (dss_cons (ds_expr (de_m PySem.F.plainAttrs_list PySem.F.slot_list_extend PySem.F.type_list_extend ty_list dm_extend (dv 1) (da_cons (de_lc rfl sc_touched_by.nd (di_seq (dv 0)) (blkOk_by (N := N_touched_by) (sc := defScope s_touched_by) (own := [("line", 2)]) (by decide +kernel)) (fun _ _ _ _ _ => dgc_name (i := 2) sc_touched_by.nd rfl (by first | exact Or.inl rfl | exact Or.inr rfl) (by decide)) (fun _ _ _ _ _ => dts_one (dt_cmp (do_ne hr.units) (dcall C_told_name hr (by decide) (da_cons (dv 2) (da_nil))) (de_str) (nomark _))) (fun _ _ _ _ _ => de_ix (di_all (hu_of hr)) (dv 2) (de_int))) (da_nil))))
    (dss_cons (ds_if (dt_neNil hr.units (de_lc rfl sc_touched_by.nd (di_seq (dv 0)) (blkOk_by (N := N_touched_by) (sc := defScope s_touched_by) (own := [("line", 2)]) (by decide +kernel)) (fun _ _ _ _ _ => dgc_name (i := 2) sc_touched_by.nd rfl (by first | exact Or.inl rfl | exact Or.inr rfl) (by decide)) (fun _ _ _ _ _ => dts_one (dt_cmp (do_eq hr.units) (de_ix (di_all (hu_of hr)) (dv 2) (de_int)) (de_gstr T.c_ALL) (nomark _))) (fun _ _ _ _ _ => dv 2))) (dss_one (ds_expr (de_m PySem.F.plainAttrs_list PySem.F.slot_list_append PySem.F.type_list_append ty_list dm_append (dv 1) (da_cons (de_gstr T.c_ALL) (da_nil))))) (dss_nil))
    (dss_one (ds_ret (de_callTy dc_tuple rfl T.n_tuple boot_tuple (da_cons (de_sortSet rfl rfl T.n_sorted rfl T.n_set (dv 1)) (da_nil)))))))
theorem ok_touched_by (T : Tx K mg) (C_left_names : Cal P w K mg base 2 "left_names" P_left_names S_left_names) (C_told_name : Cal P w K mg base 1 "told_name" P_told_name S_told_name) {f : Addr} {fd : FuncData} (F : FunD K "touched_by" "touched_by" (defArgs s_touched_by) (defBody s_touched_by) (defScope s_touched_by) [] [] f fd) (hm : mg "touched_by" = some (.ref f)) : Cal P w K mg base 3 "touched_by" P_touched_by S_touched_by :=
  ⟨f, fd, hm, F.kp, F.bindsN (fun _ _ _ _ _ _ us hl => match us, hl with | [_], _ => rfl), F.ok sc_touched_by (fun vs H Q E h => keeps_len kp_touched_by h) (fun cdv A outer s H vs Q E hr h => ⟨liftS K t_touched_by, PSs.nox (d_touched_by T C_left_names C_told_name hr).pss, keeps_use (N := N_touched_by) kp_touched_by h⟩)⟩
theorem okK_touched_by_lines (T : Tx K mg) (C_left_names : Cal P w K mg base 2 "left_names" P_left_names S_left_names) (C_told_name : Cal P w K mg base 1 "told_name" P_told_name S_told_name) {f : Addr} {fd : FuncData} (F : FunD K "touched_by" "touched_by" (defArgs s_touched_by) (defBody s_touched_by) (defScope s_touched_by) [] [] f fd) (hm : mg "touched_by" = some (.ref f)) : CalK P w K mg base 3 "touched_by" P_touched_by ["lines"] [0] S_touched_by :=
  ⟨f, fd, hm, F.kp, bindsK F (fun _ _ _ _ _ _ ws hl => match ws, hl with | [_], _ => rfl), by decide, rfl, F.ok sc_touched_by (fun vs H Q E h => keeps_len kp_touched_by h) (fun cdv A outer s H vs Q E hr h => ⟨liftS K t_touched_by, PSs.nox (d_touched_by T C_left_names C_told_name hr).pss, keeps_use (N := N_touched_by) kp_touched_by h⟩)⟩
abbrev s_law_deal : Stmt := top 11
abbrev N_law_deal : List Str := ["script", "salt", "most", "cells", "mix", "cell"]
abbrev P_law_deal : List Str := ["script", "salt"]
theorem sc_law_deal : FnScope N_law_deal P_law_deal (defScope s_law_deal) := ⟨rfl, rfl, rfl, by decide +kernel, rfl, by decide +kernel, by decide +kernel⟩
theorem d_law_deal (T : Tx K mg) {f : Addr} {cdv : Value} {A : Around} {outer : List PySem.Env} {s : Shared} {H : Hp} {E : XK} (hr : Room 0 (A.deeper (envOfC "_law_deal" (defScope s_law_deal) s.heap.objs.size f cdv))) :
    DSs (cxOf CX0 P w K mg base N_law_deal "_law_deal" (defScope s_law_deal) f cdv A outer s H E).nox (defBody s_law_deal) t_law_deal := by
  exact dss_cons (ds_set (i := 2) sc_law_deal.nd rfl (Or.inr rfl) (de_bin do_mul (de_bin do_mul (de_bin do_mul (de_bin do_mul (de_bin do_mul (de_bin do_pow (de_int) (de_int)) (de_bin do_pow (de_int) (de_int))) (de_bin do_pow (de_int) (de_int))) (de_bin do_pow (de_int) (de_int))) (de_bin do_pow (de_int) (de_int))) (de_bin do_pow (de_int) (de_int))))
    (dss_cons (ds_setLc (i := 3) rfl sc_law_deal.nd rfl rfl (sw_true rfl rfl rfl (by decide +kernel)) (di_seq (de_sl (dv 0) (dp_none) (dp_some (de_int)))) (blkOk_by (N := N_law_deal) (sc := defScope s_law_deal) (own := [("cell", 5)]) (by decide +kernel)) (fun _ _ _ _ _ => dgc_name (i := 5) sc_law_deal.nd rfl (by first | exact Or.inl rfl | exact Or.inr rfl) (by decide)) (fun _ _ _ _ _ => dts_nil) (fun _ _ _ _ _ => de_bin do_mod (de_callTy dc_int rfl T.n_int boot_int (da_cons (de_callB dc_abs rfl T.n_abs boot_abs (da_cons (de_callTy dc_int rfl T.n_int boot_int (da_cons (dv 5) (da_nil))) (da_nil))) (da_nil))) (dv 2)))
    (dss_cons (ds_set (i := 4) sc_law_deal.nd rfl (Or.inl rfl) (de_bin do_add (de_int) (de_bin do_mul (de_int) (dv 1))))
    (dss_cons (ds_for PassesOwn.never rfl (di_seq (dv 3)) (dg_name (i := 5) sc_law_deal.nd rfl (Or.inl rfl)) (dss_one (ds_set (i := 4) sc_law_deal.nd rfl (Or.inl rfl) (de_bin do_mod (de_callTy dc_int rfl T.n_int boot_int (da_cons (de_bin do_add (de_bin do_add (de_bin do_mul (dv 4) (de_int)) (de_bin do_mod (de_callTy dc_int rfl T.n_int boot_int (da_cons (dv 5) (da_nil))) (de_int))) (de_int)) (da_nil))) (de_int)))))
    (dss_one (ds_ret (de_lst (da_cons (de_rev (de_lc rfl sc_law_deal.nd (di_seq (dv 3)) (blkOk_by (N := N_law_deal) (sc := defScope s_law_deal) (own := [("cell", 5)]) (by decide +kernel)) (fun _ _ _ _ _ => dgc_name (i := 5) sc_law_deal.nd rfl (by first | exact Or.inl rfl | exact Or.inr rfl) (by decide)) (fun _ _ _ _ _ => dts_one (dt_cmp do_ge (dv 5) (de_bin do_pow (de_int) (de_int)) (nomark _))) (fun _ _ _ _ _ => dv 5))) (da_cons (dv 4) (da_nil)))))))))
theorem ok_law_deal (T : Tx K mg) {f : Addr} {fd : FuncData} (F : FunD K "_law_deal" "_law_deal" (defArgs s_law_deal) (defBody s_law_deal) (defScope s_law_deal) [] [] f fd) (hm : mg "_law_deal" = some (.ref f)) : Cal P w K mg base 1 "_law_deal" P_law_deal S_law_deal :=
  ⟨f, fd, hm, F.kp, F.bindsN (fun _ _ _ _ _ _ us hl => match us, hl with | [_, _], _ => rfl), F.ok sc_law_deal (fun vs H Q E h => keeps_len kp_law_deal h) (fun cdv A outer s H vs Q E hr h => ⟨liftS K t_law_deal, PSs.nox (d_law_deal T  hr).pss, keeps_use (N := N_law_deal) kp_law_deal h⟩)⟩
abbrev s_law_any : Stmt := top 12
abbrev N_law_any : List Str := ["deal", "bound", "rest"]
abbrev P_law_any : List Str := ["deal", "bound"]
theorem sc_law_any : FnScope N_law_any P_law_any (defScope s_law_any) := ⟨rfl, rfl, rfl, by decide +kernel, rfl, by decide +kernel, by decide +kernel⟩
theorem d_law_any (T : Tx K mg) {f : Addr} {cdv : Value} {A : Around} {outer : List PySem.Env} {s : Shared} {H : Hp} {E : XK} (hr : Room 0 (A.deeper (envOfC "_law_any" (defScope s_law_any) s.heap.objs.size f cdv))) :
    DSs (cxOf CX0 P w K mg base N_law_any "_law_any" (defScope s_law_any) f cdv A outer s H E).nox (defBody s_law_any) t_law_any := by
  exact dss_cons (ds_while PassesOwn.never (DW.dt (dw_and (dt_neNil hr.units (de_ix (di_all (hu_of hr)) (dv 0) (de_int))) (dw_and1 (dt_cmp (do_eq hr.units) (de_ix (di_all (hu_of hr)) (de_ix (di_all (hu_of hr)) (dv 0) (de_int)) (de_neg)) (de_int) (nomark _))))) (dss_one (ds_expr (de_m0 PySem.F.plainAttrs_list PySem.F.slot_list_pop PySem.F.type_list_pop ty_list dm_pop (de_ix (di_all (hu_of hr)) (dv 0) (de_int))))))
    (dss_cons (ds_if (dt_neNil hr.units (de_ix (di_all (hu_of hr)) (dv 0) (de_int))) (dss_cons (ds_set (i := 2) sc_law_any.nd rfl (Or.inl rfl) (de_callTy dc_int rfl T.n_int boot_int (da_cons (de_m0 PySem.F.plainAttrs_list PySem.F.slot_list_pop PySem.F.type_list_pop ty_list dm_pop (de_ix (di_all (hu_of hr)) (dv 0) (de_int))) (da_nil))))
    (dss_cons (ds_expr (de_m PySem.F.plainAttrs_list PySem.F.slot_list_append PySem.F.type_list_append ty_list dm_append (de_ix (di_all (hu_of hr)) (dv 0) (de_int)) (da_cons (de_bin do_div (dv 2) (dv 1)) (da_nil))))
    (dss_one (ds_ret (de_bin do_mod (dv 2) (dv 1)))))) (dss_nil))
    (dss_cons (ds_asg (de_bin do_mod (de_callTy dc_int rfl T.n_int boot_int (da_cons (de_bin do_add (de_bin do_mul (de_ix (di_all (hu_of hr)) (dv 0) (de_int)) (de_int)) (de_int)) (da_nil))) (de_int)) (dg_sub (dv 0) (de_int) (dset_all (hu_of hr))))
    (dss_one (ds_ret (de_bin do_mod (de_callTy dc_int rfl T.n_int boot_int (da_cons (de_bin do_div (de_ix (di_all (hu_of hr)) (dv 0) (de_int)) (de_int)) (da_nil))) (dv 1))))))
theorem ok_law_any (T : Tx K mg) {f : Addr} {fd : FuncData} (F : FunD K "_law_any" "_law_any" (defArgs s_law_any) (defBody s_law_any) (defScope s_law_any) [] [] f fd) (hm : mg "_law_any" = some (.ref f)) : Cal P w K mg base 1 "_law_any" P_law_any S_law_any :=
  ⟨f, fd, hm, F.kp, F.bindsN (fun _ _ _ _ _ _ us hl => match us, hl with | [_, _], _ => rfl), F.ok sc_law_any (fun vs H Q E h => keeps_len kp_law_any h) (fun cdv A outer s H vs Q E hr h => ⟨liftS K t_law_any, PSs.nox (d_law_any T  hr).pss, keeps_use (N := N_law_any) kp_law_any h⟩)⟩
abbrev s_law_of : Stmt := top 13
abbrev N_law_of : List Str := ["deal", "some"]
abbrev P_law_of : List Str := ["deal", "some"]
theorem sc_law_of : FnScope N_law_of P_law_of (defScope s_law_of) := ⟨rfl, rfl, rfl, by decide +kernel, rfl, by decide +kernel, by decide +kernel⟩
theorem d_law_of (T : Tx K mg) (C_law_any : Cal P w K mg base 1 "_law_any" P_law_any S_law_any) {f : Addr} {cdv : Value} {A : Around} {outer : List PySem.Env} {s : Shared} {H : Hp} {E : XK} (hr : Room 1 (A.deeper (envOfC "_law_of" (defScope s_law_of) s.heap.objs.size f cdv))) :
    DSs (cxOf CX0 P w K mg base N_law_of "_law_of" (defScope s_law_of) f cdv A outer s H E).nox (defBody s_law_of) t_law_of := by
  exact dss_one (ds_ret (de_ix (di_all (hu_of hr)) (dv 1) (dcall C_law_any hr (by decide) (da_cons (dv 0) (da_cons (de_callB dc_len rfl T.n_len PySem.boot_len (da_cons (dv 1) (da_nil))) (da_nil))))))
theorem ok_law_of (T : Tx K mg) (C_law_any : Cal P w K mg base 1 "_law_any" P_law_any S_law_any) {f : Addr} {fd : FuncData} (F : FunD K "_law_of" "_law_of" (defArgs s_law_of) (defBody s_law_of) (defScope s_law_of) [] [] f fd) (hm : mg "_law_of" = some (.ref f)) : Cal P w K mg base 2 "_law_of" P_law_of S_law_of :=
  ⟨f, fd, hm, F.kp, F.bindsN (fun _ _ _ _ _ _ us hl => match us, hl with | [_, _], _ => rfl), F.ok sc_law_of (fun vs H Q E h => keeps_len kp_law_of h) (fun cdv A outer s H vs Q E hr h => ⟨liftS K t_law_of, PSs.nox (d_law_of T C_law_any hr).pss, keeps_use (N := N_law_of) kp_law_of h⟩)⟩
abbrev s_law_mixed : Stmt := top 14
abbrev N_law_mixed : List Str := ["deal", "some", "left", "found", "turn"]
abbrev P_law_mixed : List Str := ["deal", "some"]
theorem sc_law_mixed : FnScope N_law_mixed P_law_mixed (defScope s_law_mixed) := ⟨rfl, rfl, rfl, by decide +kernel, rfl, by decide +kernel, by decide +kernel⟩
theorem d_law_mixed (T : Tx K mg) (C_law_any : Cal P w K mg base 1 "_law_any" P_law_any S_law_any) {f : Addr} {cdv : Value} {A : Around} {outer : List PySem.Env} {s : Shared} {H : Hp} {E : XK} (hr : Room 1 (A.deeper (envOfC "_law_mixed" (defScope s_law_mixed) s.heap.objs.size f cdv))) :
    DSs (cxOf CX0 P w K mg base N_law_mixed "_law_mixed" (defScope s_law_mixed) f cdv A outer s H E).nox (defBody s_law_mixed) t_law_mixed := by
  exact dss_cons (ds_par (i := 2) (j := 3) rfl sc_law_mixed.nd rfl rfl (by decide) rfl rfl (da_cons (de_callTy (dc_list rfl) rfl T.n_list boot_list (da_cons (dv 1) (da_nil))) (da_cons (de_lst (da_nil)) (da_nil))) (by rfl))
    (dss_cons (ds_for PassesOwn.never rfl (di_rng1 rfl T.n_range (de_callB dc_len rfl T.n_len PySem.boot_len (da_cons (dv 1) (da_nil)))) (dg_name (i := 4) sc_law_mixed.nd rfl (Or.inl rfl)) (dss_one (ds_expr (de_m PySem.F.plainAttrs_list PySem.F.slot_list_append PySem.F.type_list_append ty_list dm_append (dv 3) (da_cons (de_m PySem.F.plainAttrs_list PySem.F.slot_list_pop PySem.F.type_list_pop ty_list dm_popAt (dv 2) (da_cons (dcall C_law_any hr (by decide) (da_cons (dv 0) (da_cons (de_callB dc_len rfl T.n_len PySem.boot_len (da_cons (dv 2) (da_nil))) (da_nil)))) (da_nil))) (da_nil))))))
    (dss_one (ds_ret (dv 3))))
theorem ok_law_mixed (T : Tx K mg) (C_law_any : Cal P w K mg base 1 "_law_any" P_law_any S_law_any) {f : Addr} {fd : FuncData} (F : FunD K "_law_mixed" "_law_mixed" (defArgs s_law_mixed) (defBody s_law_mixed) (defScope s_law_mixed) [] [] f fd) (hm : mg "_law_mixed" = some (.ref f)) : Cal P w K mg base 2 "_law_mixed" P_law_mixed S_law_mixed :=
  ⟨f, fd, hm, F.kp, F.bindsN (fun _ _ _ _ _ _ us hl => match us, hl with | [_, _], _ => rfl), F.ok sc_law_mixed (fun vs H Q E h => keeps_len kp_law_mixed h) (fun cdv A outer s H vs Q E hr h => ⟨liftS K t_law_mixed, PSs.nox (d_law_mixed T C_law_any hr).pss, keeps_use (N := N_law_mixed) kp_law_mixed h⟩)⟩
abbrev s_law_same : Stmt := top 15
abbrev N_law_same : List Str := ["told", "due", "at"]
abbrev P_law_same : List Str := ["told", "due"]
theorem sc_law_same : FnScope N_law_same P_law_same (defScope s_law_same) := ⟨rfl, rfl, rfl, by decide +kernel, rfl, by decide +kernel, by decide +kernel⟩
theorem okF_law_same (T : Tx K mg) {f : Addr} {fd : FuncData} (F : FunD K "_law_same" "_law_same" (defArgs s_law_same) (defBody s_law_same) (defScope s_law_same) [] [] f fd) (hm : mg "_law_same" = some (.ref f)) : Cal P w K mg base 1 "_law_same" P_law_same (SP_law_same 0) :=
  ⟨f, fd, hm, F.kp, F.bindsN (fun _ _ _ _ _ _ us hl => match us, hl with | [_, _], _ => rfl), F.ok sc_law_same (fun vs H Q E h => (liftSp_no h).elim) (fun cdv A outer s H vs Q E hr h => (liftSp_no h).elim)⟩
theorem d_law_same_0 (T : Tx K mg) (C_law_same : Cal P w K mg base 1 "_law_same" P_law_same (SP_law_same 0)) {f : Addr} {cdv : Value} {A : Around} {outer : List PySem.Env} {s : Shared} {H : Hp} {E : XK} (hr : Room 1 (A.deeper (envOfC "_law_same" (defScope s_law_same) s.heap.objs.size f cdv))) :
    DSs (cxOf CX0 P w K mg base N_law_same "_law_same" (defScope s_law_same) f cdv A outer s H E).nox (defBody s_law_same) (t_law_same (SP_law_same 0)) := by
  exact dss_cons (ds_if (dt_val (de_callB dc_isi rfl T.n_isinstance boot_isinstance (da_cons (dv 1) (da_cons (de_bltn rfl T.n_tuple boot_tuple) (da_nil))))) (dss_cons (ds_if (DW.dt (dw_or (dt_not (dt_val (de_callB dc_isi rfl T.n_isinstance boot_isinstance (da_cons (dv 0) (da_cons (de_bltn rfl T.n_tuple boot_tuple) (da_nil)))))) (dw_or1 (dt_cmp (do_ne hr.units) (de_callB dc_len rfl T.n_len PySem.boot_len (da_cons (dv 0) (da_nil))) (de_callB dc_len rfl T.n_len PySem.boot_len (da_cons (dv 1) (da_nil))) (nomark _))))) (dss_one (ds_ret (de_bl))) (dss_nil))
    (dss_one (ds_ret (de_cmp (do_eq hr.units) (de_callB dc_len rfl T.n_len PySem.boot_len (da_cons (de_lc rfl sc_law_same.nd (di_rng1 rfl T.n_range (de_callB dc_len rfl T.n_len PySem.boot_len (da_cons (dv 1) (da_nil)))) (blkOk_by (N := N_law_same) (sc := defScope s_law_same) (own := [("at", 2)]) (by decide +kernel)) (fun _ _ _ _ _ => dgc_name (i := 2) sc_law_same.nd rfl (by first | exact Or.inl rfl | exact Or.inr rfl) (by decide)) (fun _ _ _ _ _ => dts_one (dt_not (dt_val (dcall C_law_same hr (by decide) (da_cons (de_ix (di_all (hu_of hr)) (dv 0) (dv 2)) (da_cons (de_ix (di_all (hu_of hr)) (dv 1) (dv 2)) (da_nil))))))) (fun _ _ _ _ _ => dv 2)) (da_nil))) (de_int) (nomark _))))) (dss_nil))
    (dss_cons (ds_if (dt_cmp do_is (dv 1) (de_non) (nomark _)) (dss_one (ds_ret (de_cmp do_is (dv 0) (de_non) (nomark _)))) (dss_nil))
    (dss_cons (ds_if (DW.dt (dw_or (dt_cmp do_is (dv 1) (de_bl) (nomark _)) (dw_or1 (dt_cmp do_is (dv 1) (de_bl) (nomark _))))) (dss_one (ds_ret (de_ifExp (dt_val (dv 1)) (de_cmp do_is (dv 0) (de_bl) (nomark _)) (de_cmp do_is (dv 0) (de_bl) (nomark _))))) (dss_nil))
    (dss_cons (ds_if (dt_val (de_callB dc_isi rfl T.n_isinstance boot_isinstance (da_cons (dv 1) (da_cons (de_bltn rfl T.n_str boot_str) (da_nil))))) (dss_one (ds_ret (de_and (de_callB dc_isi rfl T.n_isinstance boot_isinstance (da_cons (dv 0) (da_cons (de_bltn rfl T.n_str boot_str) (da_nil)))) (de_one (de_cmp (do_eq hr.units) (dv 0) (dv 1) (nomark _)))))) (dss_nil))
    (dss_one (ds_ret (de_and (de_callB dc_isi rfl T.n_isinstance boot_isinstance (da_cons (dv 0) (da_cons (de_bltn rfl T.n_int boot_int) (da_nil)))) (de_and (de_not (de_callB dc_isi rfl T.n_isinstance boot_isinstance (da_cons (dv 0) (da_cons (de_bltn rfl T.n_bool boot_bool) (da_nil))))) (de_one (de_cmp (do_eq hr.units) (dv 0) (dv 1) (nomark _))))))))))
theorem ok_law_same_0 (T : Tx K mg) (C_law_same : Cal P w K mg base 1 "_law_same" P_law_same (SP_law_same 0)) {f : Addr} {fd : FuncData} (F : FunD K "_law_same" "_law_same" (defArgs s_law_same) (defBody s_law_same) (defScope s_law_same) [] [] f fd) (hm : mg "_law_same" = some (.ref f)) : Cal P w K mg base 2 "_law_same" P_law_same (SP_law_same 1) :=
  ⟨f, fd, hm, F.kp, F.bindsN (fun _ _ _ _ _ _ us hl => match us, hl with | [_, _], _ => rfl), F.ok sc_law_same (fun vs H Q E h => keeps_len (kr_law_same 0) h) (fun cdv A outer s H vs Q E hr h => ⟨liftS K (t_law_same (SP_law_same 0)), PSs.nox (d_law_same_0 T C_law_same hr).pss, keeps_use (N := N_law_same) (kr_law_same 0) h⟩)⟩
theorem d_law_same_1 (T : Tx K mg) (C_law_same : Cal P w K mg base 2 "_law_same" P_law_same (SP_law_same 1)) {f : Addr} {cdv : Value} {A : Around} {outer : List PySem.Env} {s : Shared} {H : Hp} {E : XK} (hr : Room 2 (A.deeper (envOfC "_law_same" (defScope s_law_same) s.heap.objs.size f cdv))) :
    DSs (cxOf CX0 P w K mg base N_law_same "_law_same" (defScope s_law_same) f cdv A outer s H E).nox (defBody s_law_same) (t_law_same (SP_law_same 1)) := by
  exact dss_cons (ds_if (dt_val (de_callB dc_isi rfl T.n_isinstance boot_isinstance (da_cons (dv 1) (da_cons (de_bltn rfl T.n_tuple boot_tuple) (da_nil))))) (dss_cons (ds_if (DW.dt (dw_or (dt_not (dt_val (de_callB dc_isi rfl T.n_isinstance boot_isinstance (da_cons (dv 0) (da_cons (de_bltn rfl T.n_tuple boot_tuple) (da_nil)))))) (dw_or1 (dt_cmp (do_ne hr.units) (de_callB dc_len rfl T.n_len PySem.boot_len (da_cons (dv 0) (da_nil))) (de_callB dc_len rfl T.n_len PySem.boot_len (da_cons (dv 1) (da_nil))) (nomark _))))) (dss_one (ds_ret (de_bl))) (dss_nil))
    (dss_one (ds_ret (de_cmp (do_eq hr.units) (de_callB dc_len rfl T.n_len PySem.boot_len (da_cons (de_lc rfl sc_law_same.nd (di_rng1 rfl T.n_range (de_callB dc_len rfl T.n_len PySem.boot_len (da_cons (dv 1) (da_nil)))) (blkOk_by (N := N_law_same) (sc := defScope s_law_same) (own := [("at", 2)]) (by decide +kernel)) (fun _ _ _ _ _ => dgc_name (i := 2) sc_law_same.nd rfl (by first | exact Or.inl rfl | exact Or.inr rfl) (by decide)) (fun _ _ _ _ _ => dts_one (dt_not (dt_val (dcall C_law_same hr (by decide) (da_cons (de_ix (di_all (hu_of hr)) (dv 0) (dv 2)) (da_cons (de_ix (di_all (hu_of hr)) (dv 1) (dv 2)) (da_nil))))))) (fun _ _ _ _ _ => dv 2)) (da_nil))) (de_int) (nomark _))))) (dss_nil))
    (dss_cons (ds_if (dt_cmp do_is (dv 1) (de_non) (nomark _)) (dss_one (ds_ret (de_cmp do_is (dv 0) (de_non) (nomark _)))) (dss_nil))
    (dss_cons (ds_if (DW.dt (dw_or (dt_cmp do_is (dv 1) (de_bl) (nomark _)) (dw_or1 (dt_cmp do_is (dv 1) (de_bl) (nomark _))))) (dss_one (ds_ret (de_ifExp (dt_val (dv 1)) (de_cmp do_is (dv 0) (de_bl) (nomark _)) (de_cmp do_is (dv 0) (de_bl) (nomark _))))) (dss_nil))
    (dss_cons (ds_if (dt_val (de_callB dc_isi rfl T.n_isinstance boot_isinstance (da_cons (dv 1) (da_cons (de_bltn rfl T.n_str boot_str) (da_nil))))) (dss_one (ds_ret (de_and (de_callB dc_isi rfl T.n_isinstance boot_isinstance (da_cons (dv 0) (da_cons (de_bltn rfl T.n_str boot_str) (da_nil)))) (de_one (de_cmp (do_eq hr.units) (dv 0) (dv 1) (nomark _)))))) (dss_nil))
    (dss_one (ds_ret (de_and (de_callB dc_isi rfl T.n_isinstance boot_isinstance (da_cons (dv 0) (da_cons (de_bltn rfl T.n_int boot_int) (da_nil)))) (de_and (de_not (de_callB dc_isi rfl T.n_isinstance boot_isinstance (da_cons (dv 0) (da_cons (de_bltn rfl T.n_bool boot_bool) (da_nil))))) (de_one (de_cmp (do_eq hr.units) (dv 0) (dv 1) (nomark _))))))))))
theorem ok_law_same_1 (T : Tx K mg) (C_law_same : Cal P w K mg base 2 "_law_same" P_law_same (SP_law_same 1)) {f : Addr} {fd : FuncData} (F : FunD K "_law_same" "_law_same" (defArgs s_law_same) (defBody s_law_same) (defScope s_law_same) [] [] f fd) (hm : mg "_law_same" = some (.ref f)) : Cal P w K mg base 3 "_law_same" P_law_same (SP_law_same 2) :=
  ⟨f, fd, hm, F.kp, F.bindsN (fun _ _ _ _ _ _ us hl => match us, hl with | [_, _], _ => rfl), F.ok sc_law_same (fun vs H Q E h => keeps_len (kr_law_same 1) h) (fun cdv A outer s H vs Q E hr h => ⟨liftS K (t_law_same (SP_law_same 1)), PSs.nox (d_law_same_1 T C_law_same hr).pss, keeps_use (N := N_law_same) (kr_law_same 1) h⟩)⟩
theorem d_law_same_2 (T : Tx K mg) (C_law_same : Cal P w K mg base 3 "_law_same" P_law_same (SP_law_same 2)) {f : Addr} {cdv : Value} {A : Around} {outer : List PySem.Env} {s : Shared} {H : Hp} {E : XK} (hr : Room 3 (A.deeper (envOfC "_law_same" (defScope s_law_same) s.heap.objs.size f cdv))) :
    DSs (cxOf CX0 P w K mg base N_law_same "_law_same" (defScope s_law_same) f cdv A outer s H E).nox (defBody s_law_same) (t_law_same (SP_law_same 2)) := by
  exact dss_cons (ds_if (dt_val (de_callB dc_isi rfl T.n_isinstance boot_isinstance (da_cons (dv 1) (da_cons (de_bltn rfl T.n_tuple boot_tuple) (da_nil))))) (dss_cons (ds_if (DW.dt (dw_or (dt_not (dt_val (de_callB dc_isi rfl T.n_isinstance boot_isinstance (da_cons (dv 0) (da_cons (de_bltn rfl T.n_tuple boot_tuple) (da_nil)))))) (dw_or1 (dt_cmp (do_ne hr.units) (de_callB dc_len rfl T.n_len PySem.boot_len (da_cons (dv 0) (da_nil))) (de_callB dc_len rfl T.n_len PySem.boot_len (da_cons (dv 1) (da_nil))) (nomark _))))) (dss_one (ds_ret (de_bl))) (dss_nil))
    (dss_one (ds_ret (de_cmp (do_eq hr.units) (de_callB dc_len rfl T.n_len PySem.boot_len (da_cons (de_lc rfl sc_law_same.nd (di_rng1 rfl T.n_range (de_callB dc_len rfl T.n_len PySem.boot_len (da_cons (dv 1) (da_nil)))) (blkOk_by (N := N_law_same) (sc := defScope s_law_same) (own := [("at", 2)]) (by decide +kernel)) (fun _ _ _ _ _ => dgc_name (i := 2) sc_law_same.nd rfl (by first | exact Or.inl rfl | exact Or.inr rfl) (by decide)) (fun _ _ _ _ _ => dts_one (dt_not (dt_val (dcall C_law_same hr (by decide) (da_cons (de_ix (di_all (hu_of hr)) (dv 0) (dv 2)) (da_cons (de_ix (di_all (hu_of hr)) (dv 1) (dv 2)) (da_nil))))))) (fun _ _ _ _ _ => dv 2)) (da_nil))) (de_int) (nomark _))))) (dss_nil))
    (dss_cons (ds_if (dt_cmp do_is (dv 1) (de_non) (nomark _)) (dss_one (ds_ret (de_cmp do_is (dv 0) (de_non) (nomark _)))) (dss_nil))
    (dss_cons (ds_if (DW.dt (dw_or (dt_cmp do_is (dv 1) (de_bl) (nomark _)) (dw_or1 (dt_cmp do_is (dv 1) (de_bl) (nomark _))))) (dss_one (ds_ret (de_ifExp (dt_val (dv 1)) (de_cmp do_is (dv 0) (de_bl) (nomark _)) (de_cmp do_is (dv 0) (de_bl) (nomark _))))) (dss_nil))
    (dss_cons (ds_if (dt_val (de_callB dc_isi rfl T.n_isinstance boot_isinstance (da_cons (dv 1) (da_cons (de_bltn rfl T.n_str boot_str) (da_nil))))) (dss_one (ds_ret (de_and (de_callB dc_isi rfl T.n_isinstance boot_isinstance (da_cons (dv 0) (da_cons (de_bltn rfl T.n_str boot_str) (da_nil)))) (de_one (de_cmp (do_eq hr.units) (dv 0) (dv 1) (nomark _)))))) (dss_nil))
    (dss_one (ds_ret (de_and (de_callB dc_isi rfl T.n_isinstance boot_isinstance (da_cons (dv 0) (da_cons (de_bltn rfl T.n_int boot_int) (da_nil)))) (de_and (de_not (de_callB dc_isi rfl T.n_isinstance boot_isinstance (da_cons (dv 0) (da_cons (de_bltn rfl T.n_bool boot_bool) (da_nil))))) (de_one (de_cmp (do_eq hr.units) (dv 0) (dv 1) (nomark _))))))))))
theorem ok_law_same_2 (T : Tx K mg) (C_law_same : Cal P w K mg base 3 "_law_same" P_law_same (SP_law_same 2)) {f : Addr} {fd : FuncData} (F : FunD K "_law_same" "_law_same" (defArgs s_law_same) (defBody s_law_same) (defScope s_law_same) [] [] f fd) (hm : mg "_law_same" = some (.ref f)) : Cal P w K mg base 4 "_law_same" P_law_same (SP_law_same 3) :=
  ⟨f, fd, hm, F.kp, F.bindsN (fun _ _ _ _ _ _ us hl => match us, hl with | [_, _], _ => rfl), F.ok sc_law_same (fun vs H Q E h => keeps_len (kr_law_same 2) h) (fun cdv A outer s H vs Q E hr h => ⟨liftS K (t_law_same (SP_law_same 2)), PSs.nox (d_law_same_2 T C_law_same hr).pss, keeps_use (N := N_law_same) (kr_law_same 2) h⟩)⟩
theorem d_law_same_3 (T : Tx K mg) (C_law_same : Cal P w K mg base 4 "_law_same" P_law_same (SP_law_same 3)) {f : Addr} {cdv : Value} {A : Around} {outer : List PySem.Env} {s : Shared} {H : Hp} {E : XK} (hr : Room 4 (A.deeper (envOfC "_law_same" (defScope s_law_same) s.heap.objs.size f cdv))) :
    DSs (cxOf CX0 P w K mg base N_law_same "_law_same" (defScope s_law_same) f cdv A outer s H E).nox (defBody s_law_same) (t_law_same (SP_law_same 3)) := by
  exact dss_cons (ds_if (dt_val (de_callB dc_isi rfl T.n_isinstance boot_isinstance (da_cons (dv 1) (da_cons (de_bltn rfl T.n_tuple boot_tuple) (da_nil))))) (dss_cons (ds_if (DW.dt (dw_or (dt_not (dt_val (de_callB dc_isi rfl T.n_isinstance boot_isinstance (da_cons (dv 0) (da_cons (de_bltn rfl T.n_tuple boot_tuple) (da_nil)))))) (dw_or1 (dt_cmp (do_ne hr.units) (de_callB dc_len rfl T.n_len PySem.boot_len (da_cons (dv 0) (da_nil))) (de_callB dc_len rfl T.n_len PySem.boot_len (da_cons (dv 1) (da_nil))) (nomark _))))) (dss_one (ds_ret (de_bl))) (dss_nil))
    (dss_one (ds_ret (de_cmp (do_eq hr.units) (de_callB dc_len rfl T.n_len PySem.boot_len (da_cons (de_lc rfl sc_law_same.nd (di_rng1 rfl T.n_range (de_callB dc_len rfl T.n_len PySem.boot_len (da_cons (dv 1) (da_nil)))) (blkOk_by (N := N_law_same) (sc := defScope s_law_same) (own := [("at", 2)]) (by decide +kernel)) (fun _ _ _ _ _ => dgc_name (i := 2) sc_law_same.nd rfl (by first | exact Or.inl rfl | exact Or.inr rfl) (by decide)) (fun _ _ _ _ _ => dts_one (dt_not (dt_val (dcall C_law_same hr (by decide) (da_cons (de_ix (di_all (hu_of hr)) (dv 0) (dv 2)) (da_cons (de_ix (di_all (hu_of hr)) (dv 1) (dv 2)) (da_nil))))))) (fun _ _ _ _ _ => dv 2)) (da_nil))) (de_int) (nomark _))))) (dss_nil))
    (dss_cons (ds_if (dt_cmp do_is (dv 1) (de_non) (nomark _)) (dss_one (ds_ret (de_cmp do_is (dv 0) (de_non) (nomark _)))) (dss_nil))
    (dss_cons (ds_if (DW.dt (dw_or (dt_cmp do_is (dv 1) (de_bl) (nomark _)) (dw_or1 (dt_cmp do_is (dv 1) (de_bl) (nomark _))))) (dss_one (ds_ret (de_ifExp (dt_val (dv 1)) (de_cmp do_is (dv 0) (de_bl) (nomark _)) (de_cmp do_is (dv 0) (de_bl) (nomark _))))) (dss_nil))
    (dss_cons (ds_if (dt_val (de_callB dc_isi rfl T.n_isinstance boot_isinstance (da_cons (dv 1) (da_cons (de_bltn rfl T.n_str boot_str) (da_nil))))) (dss_one (ds_ret (de_and (de_callB dc_isi rfl T.n_isinstance boot_isinstance (da_cons (dv 0) (da_cons (de_bltn rfl T.n_str boot_str) (da_nil)))) (de_one (de_cmp (do_eq hr.units) (dv 0) (dv 1) (nomark _)))))) (dss_nil))
    (dss_one (ds_ret (de_and (de_callB dc_isi rfl T.n_isinstance boot_isinstance (da_cons (dv 0) (da_cons (de_bltn rfl T.n_int boot_int) (da_nil)))) (de_and (de_not (de_callB dc_isi rfl T.n_isinstance boot_isinstance (da_cons (dv 0) (da_cons (de_bltn rfl T.n_bool boot_bool) (da_nil))))) (de_one (de_cmp (do_eq hr.units) (dv 0) (dv 1) (nomark _))))))))))
theorem ok_law_same_3 (T : Tx K mg) (C_law_same : Cal P w K mg base 4 "_law_same" P_law_same (SP_law_same 3)) {f : Addr} {fd : FuncData} (F : FunD K "_law_same" "_law_same" (defArgs s_law_same) (defBody s_law_same) (defScope s_law_same) [] [] f fd) (hm : mg "_law_same" = some (.ref f)) : Cal P w K mg base 5 "_law_same" P_law_same (SP_law_same 4) :=
  ⟨f, fd, hm, F.kp, F.bindsN (fun _ _ _ _ _ _ us hl => match us, hl with | [_, _], _ => rfl), F.ok sc_law_same (fun vs H Q E h => keeps_len (kr_law_same 3) h) (fun cdv A outer s H vs Q E hr h => ⟨liftS K (t_law_same (SP_law_same 3)), PSs.nox (d_law_same_3 T C_law_same hr).pss, keeps_use (N := N_law_same) (kr_law_same 3) h⟩)⟩
theorem d_law_same_4 (T : Tx K mg) (C_law_same : Cal P w K mg base 5 "_law_same" P_law_same (SP_law_same 4)) {f : Addr} {cdv : Value} {A : Around} {outer : List PySem.Env} {s : Shared} {H : Hp} {E : XK} (hr : Room 5 (A.deeper (envOfC "_law_same" (defScope s_law_same) s.heap.objs.size f cdv))) :
    DSs (cxOf CX0 P w K mg base N_law_same "_law_same" (defScope s_law_same) f cdv A outer s H E).nox (defBody s_law_same) (t_law_same (SP_law_same 4)) := by
  exact dss_cons (ds_if (dt_val (de_callB dc_isi rfl T.n_isinstance boot_isinstance (da_cons (dv 1) (da_cons (de_bltn rfl T.n_tuple boot_tuple) (da_nil))))) (dss_cons (ds_if (DW.dt (dw_or (dt_not (dt_val (de_callB dc_isi rfl T.n_isinstance boot_isinstance (da_cons (dv 0) (da_cons (de_bltn rfl T.n_tuple boot_tuple) (da_nil)))))) (dw_or1 (dt_cmp (do_ne hr.units) (de_callB dc_len rfl T.n_len PySem.boot_len (da_cons (dv 0) (da_nil))) (de_callB dc_len rfl T.n_len PySem.boot_len (da_cons (dv 1) (da_nil))) (nomark _))))) (dss_one (ds_ret (de_bl))) (dss_nil))
    (dss_one (ds_ret (de_cmp (do_eq hr.units) (de_callB dc_len rfl T.n_len PySem.boot_len (da_cons (de_lc rfl sc_law_same.nd (di_rng1 rfl T.n_range (de_callB dc_len rfl T.n_len PySem.boot_len (da_cons (dv 1) (da_nil)))) (blkOk_by (N := N_law_same) (sc := defScope s_law_same) (own := [("at", 2)]) (by decide +kernel)) (fun _ _ _ _ _ => dgc_name (i := 2) sc_law_same.nd rfl (by first | exact Or.inl rfl | exact Or.inr rfl) (by decide)) (fun _ _ _ _ _ => dts_one (dt_not (dt_val (dcall C_law_same hr (by decide) (da_cons (de_ix (di_all (hu_of hr)) (dv 0) (dv 2)) (da_cons (de_ix (di_all (hu_of hr)) (dv 1) (dv 2)) (da_nil))))))) (fun _ _ _ _ _ => dv 2)) (da_nil))) (de_int) (nomark _))))) (dss_nil))
    (dss_cons (ds_if (dt_cmp do_is (dv 1) (de_non) (nomark _)) (dss_one (ds_ret (de_cmp do_is (dv 0) (de_non) (nomark _)))) (dss_nil))
    (dss_cons (ds_if (DW.dt (dw_or (dt_cmp do_is (dv 1) (de_bl) (nomark _)) (dw_or1 (dt_cmp do_is (dv 1) (de_bl) (nomark _))))) (dss_one (ds_ret (de_ifExp (dt_val (dv 1)) (de_cmp do_is (dv 0) (de_bl) (nomark _)) (de_cmp do_is (dv 0) (de_bl) (nomark _))))) (dss_nil))
    (dss_cons (ds_if (dt_val (de_callB dc_isi rfl T.n_isinstance boot_isinstance (da_cons (dv 1) (da_cons (de_bltn rfl T.n_str boot_str) (da_nil))))) (dss_one (ds_ret (de_and (de_callB dc_isi rfl T.n_isinstance boot_isinstance (da_cons (dv 0) (da_cons (de_bltn rfl T.n_str boot_str) (da_nil)))) (de_one (de_cmp (do_eq hr.units) (dv 0) (dv 1) (nomark _)))))) (dss_nil))
    (dss_one (ds_ret (de_and (de_callB dc_isi rfl T.n_isinstance boot_isinstance (da_cons (dv 0) (da_cons (de_bltn rfl T.n_int boot_int) (da_nil)))) (de_and (de_not (de_callB dc_isi rfl T.n_isinstance boot_isinstance (da_cons (dv 0) (da_cons (de_bltn rfl T.n_bool boot_bool) (da_nil))))) (de_one (de_cmp (do_eq hr.units) (dv 0) (dv 1) (nomark _))))))))))
theorem ok_law_same_4 (T : Tx K mg) (C_law_same : Cal P w K mg base 5 "_law_same" P_law_same (SP_law_same 4)) {f : Addr} {fd : FuncData} (F : FunD K "_law_same" "_law_same" (defArgs s_law_same) (defBody s_law_same) (defScope s_law_same) [] [] f fd) (hm : mg "_law_same" = some (.ref f)) : Cal P w K mg base 6 "_law_same" P_law_same (SP_law_same 5) :=
  ⟨f, fd, hm, F.kp, F.bindsN (fun _ _ _ _ _ _ us hl => match us, hl with | [_, _], _ => rfl), F.ok sc_law_same (fun vs H Q E h => keeps_len (kr_law_same 4) h) (fun cdv A outer s H vs Q E hr h => ⟨liftS K (t_law_same (SP_law_same 4)), PSs.nox (d_law_same_4 T C_law_same hr).pss, keeps_use (N := N_law_same) (kr_law_same 4) h⟩)⟩
theorem d_law_same_5 (T : Tx K mg) (C_law_same : Cal P w K mg base 6 "_law_same" P_law_same (SP_law_same 5)) {f : Addr} {cdv : Value} {A : Around} {outer : List PySem.Env} {s : Shared} {H : Hp} {E : XK} (hr : Room 6 (A.deeper (envOfC "_law_same" (defScope s_law_same) s.heap.objs.size f cdv))) :
    DSs (cxOf CX0 P w K mg base N_law_same "_law_same" (defScope s_law_same) f cdv A outer s H E).nox (defBody s_law_same) (t_law_same (SP_law_same 5)) := by
  exact dss_cons (ds_if (dt_val (de_callB dc_isi rfl T.n_isinstance boot_isinstance (da_cons (dv 1) (da_cons (de_bltn rfl T.n_tuple boot_tuple) (da_nil))))) (dss_cons (ds_if (DW.dt (dw_or (dt_not (dt_val (de_callB dc_isi rfl T.n_isinstance boot_isinstance (da_cons (dv 0) (da_cons (de_bltn rfl T.n_tuple boot_tuple) (da_nil)))))) (dw_or1 (dt_cmp (do_ne hr.units) (de_callB dc_len rfl T.n_len PySem.boot_len (da_cons (dv 0) (da_nil))) (de_callB dc_len rfl T.n_len PySem.boot_len (da_cons (dv 1) (da_nil))) (nomark _))))) (dss_one (ds_ret (de_bl))) (dss_nil))
    (dss_one (ds_ret (de_cmp (do_eq hr.units) (de_callB dc_len rfl T.n_len PySem.boot_len (da_cons (de_lc rfl sc_law_same.nd (di_rng1 rfl T.n_range (de_callB dc_len rfl T.n_len PySem.boot_len (da_cons (dv 1) (da_nil)))) (blkOk_by (N := N_law_same) (sc := defScope s_law_same) (own := [("at", 2)]) (by decide +kernel)) (fun _ _ _ _ _ => dgc_name (i := 2) sc_law_same.nd rfl (by first | exact Or.inl rfl | exact Or.inr rfl) (by decide)) (fun _ _ _ _ _ => dts_one (dt_not (dt_val (dcall C_law_same hr (by decide) (da_cons (de_ix (di_all (hu_of hr)) (dv 0) (dv 2)) (da_cons (de_ix (di_all (hu_of hr)) (dv 1) (dv 2)) (da_nil))))))) (fun _ _ _ _ _ => dv 2)) (da_nil))) (de_int) (nomark _))))) (dss_nil))
    (dss_cons (ds_if (dt_cmp do_is (dv 1) (de_non) (nomark _)) (dss_one (ds_ret (de_cmp do_is (dv 0) (de_non) (nomark _)))) (dss_nil))
    (dss_cons (ds_if (DW.dt (dw_or (dt_cmp do_is (dv 1) (de_bl) (nomark _)) (dw_or1 (dt_cmp do_is (dv 1) (de_bl) (nomark _))))) (dss_one (ds_ret (de_ifExp (dt_val (dv 1)) (de_cmp do_is (dv 0) (de_bl) (nomark _)) (de_cmp do_is (dv 0) (de_bl) (nomark _))))) (dss_nil))
    (dss_cons (ds_if (dt_val (de_callB dc_isi rfl T.n_isinstance boot_isinstance (da_cons (dv 1) (da_cons (de_bltn rfl T.n_str boot_str) (da_nil))))) (dss_one (ds_ret (de_and (de_callB dc_isi rfl T.n_isinstance boot_isinstance (da_cons (dv 0) (da_cons (de_bltn rfl T.n_str boot_str) (da_nil)))) (de_one (de_cmp (do_eq hr.units) (dv 0) (dv 1) (nomark _)))))) (dss_nil))
    (dss_one (ds_ret (de_and (de_callB dc_isi rfl T.n_isinstance boot_isinstance (da_cons (dv 0) (da_cons (de_bltn rfl T.n_int boot_int) (da_nil)))) (de_and (de_not (de_callB dc_isi rfl T.n_isinstance boot_isinstance (da_cons (dv 0) (da_cons (de_bltn rfl T.n_bool boot_bool) (da_nil))))) (de_one (de_cmp (do_eq hr.units) (dv 0) (dv 1) (nomark _))))))))))
theorem ok_law_same_5 (T : Tx K mg) (C_law_same : Cal P w K mg base 6 "_law_same" P_law_same (SP_law_same 5)) {f : Addr} {fd : FuncData} (F : FunD K "_law_same" "_law_same" (defArgs s_law_same) (defBody s_law_same) (defScope s_law_same) [] [] f fd) (hm : mg "_law_same" = some (.ref f)) : Cal P w K mg base 7 "_law_same" P_law_same (SP_law_same 6) :=
  ⟨f, fd, hm, F.kp, F.bindsN (fun _ _ _ _ _ _ us hl => match us, hl with | [_, _], _ => rfl), F.ok sc_law_same (fun vs H Q E h => keeps_len (kr_law_same 5) h) (fun cdv A outer s H vs Q E hr h => ⟨liftS K (t_law_same (SP_law_same 5)), PSs.nox (d_law_same_5 T C_law_same hr).pss, keeps_use (N := N_law_same) (kr_law_same 5) h⟩)⟩
theorem d_law_same_6 (T : Tx K mg) (C_law_same : Cal P w K mg base 7 "_law_same" P_law_same (SP_law_same 6)) {f : Addr} {cdv : Value} {A : Around} {outer : List PySem.Env} {s : Shared} {H : Hp} {E : XK} (hr : Room 7 (A.deeper (envOfC "_law_same" (defScope s_law_same) s.heap.objs.size f cdv))) :
    DSs (cxOf CX0 P w K mg base N_law_same "_law_same" (defScope s_law_same) f cdv A outer s H E).nox (defBody s_law_same) (t_law_same (SP_law_same 6)) := by
  exact dss_cons (ds_if (dt_val (de_callB dc_isi rfl T.n_isinstance boot_isinstance (da_cons (dv 1) (da_cons (de_bltn rfl T.n_tuple boot_tuple) (da_nil))))) (dss_cons (ds_if (DW.dt (dw_or (dt_not (dt_val (de_callB dc_isi rfl T.n_isinstance boot_isinstance (da_cons (dv 0) (da_cons (de_bltn rfl T.n_tuple boot_tuple) (da_nil)))))) (dw_or1 (dt_cmp (do_ne hr.units) (de_callB dc_len rfl T.n_len PySem.boot_len (da_cons (dv 0) (da_nil))) (de_callB dc_len rfl T.n_len PySem.boot_len (da_cons (dv 1) (da_nil))) (nomark _))))) (dss_one (ds_ret (de_bl))) (dss_nil))
    (dss_one (ds_ret (de_cmp (do_eq hr.units) (de_callB dc_len rfl T.n_len PySem.boot_len (da_cons (de_lc rfl sc_law_same.nd (di_rng1 rfl T.n_range (de_callB dc_len rfl T.n_len PySem.boot_len (da_cons (dv 1) (da_nil)))) (blkOk_by (N := N_law_same) (sc := defScope s_law_same) (own := [("at", 2)]) (by decide +kernel)) (fun _ _ _ _ _ => dgc_name (i := 2) sc_law_same.nd rfl (by first | exact Or.inl rfl | exact Or.inr rfl) (by decide)) (fun _ _ _ _ _ => dts_one (dt_not (dt_val (dcall C_law_same hr (by decide) (da_cons (de_ix (di_all (hu_of hr)) (dv 0) (dv 2)) (da_cons (de_ix (di_all (hu_of hr)) (dv 1) (dv 2)) (da_nil))))))) (fun _ _ _ _ _ => dv 2)) (da_nil))) (de_int) (nomark _))))) (dss_nil))
    (dss_cons (ds_if (dt_cmp do_is (dv 1) (de_non) (nomark _)) (dss_one (ds_ret (de_cmp do_is (dv 0) (de_non) (nomark _)))) (dss_nil))
    (dss_cons (ds_if (DW.dt (dw_or (dt_cmp do_is (dv 1) (de_bl) (nomark _)) (dw_or1 (dt_cmp do_is (dv 1) (de_bl) (nomark _))))) (dss_one (ds_ret (de_ifExp (dt_val (dv 1)) (de_cmp do_is (dv 0) (de_bl) (nomark _)) (de_cmp do_is (dv 0) (de_bl) (nomark _))))) (dss_nil))
    (dss_cons (ds_if (dt_val (de_callB dc_isi rfl T.n_isinstance boot_isinstance (da_cons (dv 1) (da_cons (de_bltn rfl T.n_str boot_str) (da_nil))))) (dss_one (ds_ret (de_and (de_callB dc_isi rfl T.n_isinstance boot_isinstance (da_cons (dv 0) (da_cons (de_bltn rfl T.n_str boot_str) (da_nil)))) (de_one (de_cmp (do_eq hr.units) (dv 0) (dv 1) (nomark _)))))) (dss_nil))
    (dss_one (ds_ret (de_and (de_callB dc_isi rfl T.n_isinstance boot_isinstance (da_cons (dv 0) (da_cons (de_bltn rfl T.n_int boot_int) (da_nil)))) (de_and (de_not (de_callB dc_isi rfl T.n_isinstance boot_isinstance (da_cons (dv 0) (da_cons (de_bltn rfl T.n_bool boot_bool) (da_nil))))) (de_one (de_cmp (do_eq hr.units) (dv 0) (dv 1) (nomark _))))))))))
theorem ok_law_same_6 (T : Tx K mg) (C_law_same : Cal P w K mg base 7 "_law_same" P_law_same (SP_law_same 6)) {f : Addr} {fd : FuncData} (F : FunD K "_law_same" "_law_same" (defArgs s_law_same) (defBody s_law_same) (defScope s_law_same) [] [] f fd) (hm : mg "_law_same" = some (.ref f)) : Cal P w K mg base 8 "_law_same" P_law_same (SP_law_same 7) :=
  ⟨f, fd, hm, F.kp, F.bindsN (fun _ _ _ _ _ _ us hl => match us, hl with | [_, _], _ => rfl), F.ok sc_law_same (fun vs H Q E h => keeps_len (kr_law_same 6) h) (fun cdv A outer s H vs Q E hr h => ⟨liftS K (t_law_same (SP_law_same 6)), PSs.nox (d_law_same_6 T C_law_same hr).pss, keeps_use (N := N_law_same) (kr_law_same 6) h⟩)⟩
abbrev s_law_all : Stmt := top 16
abbrev N_law_all : List Str := ["pairs", "told", "due"]
abbrev P_law_all : List Str := ["pairs"]
theorem sc_law_all : FnScope N_law_all P_law_all (defScope s_law_all) := ⟨rfl, rfl, rfl, by decide +kernel, rfl, by decide +kernel, by decide +kernel⟩
theorem d_law_all (T : Tx K mg) (C_law_same : Cal P w K mg base 8 "_law_same" P_law_same S_law_same) {f : Addr} {cdv : Value} {A : Around} {outer : List PySem.Env} {s : Shared} {H : Hp} {E : XK} (hr : Room 8 (A.deeper (envOfC "_law_all" (defScope s_law_all) s.heap.objs.size f cdv))) :
    DSs (cxOf CX0 P w K mg base N_law_all "_law_all" (defScope s_law_all) f cdv A outer s H E).nox (defBody s_law_all) t_law_all := by
  exact dss_one (ds_ret (de_cmp (do_eq hr.units) (de_callB dc_len rfl T.n_len PySem.boot_len (da_cons (de_lc rfl sc_law_all.nd (di_seq (dv 0)) (blkOk_by (N := N_law_all) (sc := defScope s_law_all) (own := [("told", 1), ("due", 2)]) (by decide +kernel)) (fun _ _ _ _ _ => dgc_tup rfl (dgsc_cons (dgc_name (i := 1) sc_law_all.nd rfl (by first | exact Or.inl rfl | exact Or.inr rfl) (by decide)) (dgsc_cons (dgc_name (i := 2) sc_law_all.nd rfl (by first | exact Or.inl rfl | exact Or.inr rfl) (by decide)) (dgsc_nil)))) (fun _ _ _ _ _ => dts_one (dt_not (dt_val (dcall C_law_same hr (by decide) (da_cons (dv 1) (da_cons (dv 2) (da_nil))))))) (fun _ _ _ _ _ => dv 1)) (da_nil))) (de_int) (nomark _)))
theorem ok_law_all (T : Tx K mg) (C_law_same : Cal P w K mg base 8 "_law_same" P_law_same S_law_same) {f : Addr} {fd : FuncData} (F : FunD K "_law_all" "_law_all" (defArgs s_law_all) (defBody s_law_all) (defScope s_law_all) [] [] f fd) (hm : mg "_law_all" = some (.ref f)) : Cal P w K mg base 9 "_law_all" P_law_all S_law_all :=
  ⟨f, fd, hm, F.kp, F.bindsN (fun _ _ _ _ _ _ us hl => match us, hl with | [_], _ => rfl), F.ok sc_law_all (fun vs H Q E h => keeps_len kp_law_all h) (fun cdv A outer s H vs Q E hr h => ⟨liftS K t_law_all, PSs.nox (d_law_all T C_law_same hr).pss, keeps_use (N := N_law_all) kp_law_all h⟩)⟩
abbrev s_law_next_name : Stmt := top 17
abbrev N_law_next_name : List Str := ["name", "found", "carry", "sign", "number"]
abbrev P_law_next_name : List Str := ["name"]
theorem sc_law_next_name : FnScope N_law_next_name P_law_next_name (defScope s_law_next_name) := ⟨rfl, rfl, rfl, by decide +kernel, rfl, by decide +kernel, by decide +kernel⟩
theorem d_law_next_name (T : Tx K mg) {f : Addr} {cdv : Value} {A : Around} {outer : List PySem.Env} {s : Shared} {H : Hp} {E : XK} (hr : Room 0 (A.deeper (envOfC "_law_next_name" (defScope s_law_next_name) s.heap.objs.size f cdv))) :
    DSs (cxOf CX0 P w K mg base N_law_next_name "_law_next_name" (defScope s_law_next_name) f cdv A outer s H E).nox (defBody s_law_next_name) t_law_next_name := by
  exact dss_cons (ds_asg (de_tup (da_cons (de_str) (da_cons (de_int) (da_nil)))) (dg_tup rfl (dgs_cons (dg_name (i := 1) sc_law_next_name.nd rfl (Or.inl rfl)) (dgs_cons (dg_name (i := 2) sc_law_next_name.nd rfl (Or.inl rfl)) (dgs_nil)))))
    (dss_cons (ds_for PassesOwn.never rfl (di_seq (de_revS (dv 0))) (dg_name (i := 3) sc_law_next_name.nd rfl (Or.inl rfl)) (dss_cons (ds_set (i := 4) sc_law_next_name.nd rfl (Or.inl rfl) (de_bin do_add (de_m PySem.F.plainAttrs_str PySem.F.slot_str_find PySem.F.type_str_find ty_str dm_find (de_str) (da_cons (dv 3) (da_nil))) (dv 2)))
    (dss_one (ds_par (i := 1) (j := 2) rfl sc_law_next_name.nd rfl rfl (by decide) rfl rfl (da_cons (de_bin do_add (de_ix (di_all (hu_of hr)) (de_str) (de_bin do_mod (dv 4) (de_int))) (dv 1)) (da_cons (de_bin do_div (dv 4) (de_int)) (da_nil))) (by rfl)))))
    (dss_one (ds_ret (dv 1))))
theorem ok_law_next_name (T : Tx K mg) {f : Addr} {fd : FuncData} (F : FunD K "_law_next_name" "_law_next_name" (defArgs s_law_next_name) (defBody s_law_next_name) (defScope s_law_next_name) [] [] f fd) (hm : mg "_law_next_name" = some (.ref f)) : Cal P w K mg base 1 "_law_next_name" P_law_next_name S_law_next_name :=
  ⟨f, fd, hm, F.kp, F.bindsN (fun _ _ _ _ _ _ us hl => match us, hl with | [_], _ => rfl), F.ok sc_law_next_name (fun vs H Q E h => keeps_len kp_law_next_name h) (fun cdv A outer s H vs Q E hr h => ⟨liftS K t_law_next_name, PSs.nox (d_law_next_name T  hr).pss, keeps_use (N := N_law_next_name) kp_law_next_name h⟩)⟩
abbrev s_law_names : Stmt := top 18
abbrev N_law_names : List Str := ["deal", "many", "found", "kind", "stem", "spot", "turn", "name", "again", "sign"]
abbrev P_law_names : List Str := ["deal", "many"]
theorem sc_law_names : FnScope N_law_names P_law_names (defScope s_law_names) := ⟨rfl, rfl, rfl, by decide +kernel, rfl, by decide +kernel, by decide +kernel⟩
theorem d_law_names (T : Tx K mg) (C_law_any : Cal P w K mg base 1 "_law_any" P_law_any S_law_any) (C_law_of : Cal P w K mg base 2 "_law_of" P_law_of S_law_of) (C_law_next_name : Cal P w K mg base 1 "_law_next_name" P_law_next_name S_law_next_name) {f : Addr} {cdv : Value} {A : Around} {outer : List PySem.Env} {s : Shared} {H : Hp} {E : XK} (hr : Room 2 (A.deeper (envOfC "_law_names" (defScope s_law_names) s.heap.objs.size f cdv))) :
    DSs (cxOf CX0 P w K mg base N_law_names "_law_names" (defScope s_law_names) f cdv A outer s H E).nox (defBody s_law_names) t_law_names := by
  exact dss_cons (ds_par (i := 2) (j := 3) rfl sc_law_names.nd rfl rfl (by decide) rfl rfl (da_cons (de_lst (da_nil)) (da_cons (dcall C_law_any hr (by decide) (da_cons (dv 0) (da_cons (de_int) (da_nil)))) (da_nil))) (by rfl))
    (dss_cons (ds_set (i := 4) sc_law_names.nd rfl (Or.inl rfl) (de_m PySem.F.plainAttrs_str PySem.F.slot_str_join PySem.F.type_str_join ty_str dm_join (de_str) (da_cons (de_lc rfl sc_law_names.nd (di_rng1 rfl T.n_range (de_int)) (blkOk_by (N := N_law_names) (sc := defScope s_law_names) (own := [("turn", 6)]) (by decide +kernel)) (fun _ _ _ _ _ => dgc_name (i := 6) sc_law_names.nd rfl (by first | exact Or.inl rfl | exact Or.inr rfl) (by decide)) (fun _ _ _ _ _ => dts_nil) (fun _ _ _ _ _ => dcall C_law_of hr (by decide) (da_cons (dv 0) (da_cons (de_str) (da_nil))))) (da_nil))))
    (dss_cons (ds_set (i := 5) sc_law_names.nd rfl (Or.inl rfl) (dcall C_law_any hr (by decide) (da_cons (dv 0) (da_cons (de_int) (da_nil)))))
    (dss_cons (ds_for PassesOwn.never rfl (di_rng1 rfl T.n_range (dv 1)) (dg_name (i := 6) sc_law_names.nd rfl (Or.inl rfl)) (dss_cons (ds_if (dt_cmp (do_eq hr.units) (dv 3) (de_int) (nomark _)) (dss_one (ds_set (i := 7) sc_law_names.nd rfl (Or.inl rfl) (de_bin do_add (de_bin do_add (de_sl (dv 4) (dp_none) (dp_some (dv 5))) (dcall C_law_of hr (by decide) (da_cons (dv 0) (da_cons (de_str) (da_nil))))) (de_sl (dv 4) (dp_some (dv 5)) (dp_none))))) (dss_one (ds_if (DW.dt (dw_and (dt_cmp (do_eq hr.units) (dv 3) (de_int) (nomark _)) (dw_and1 (dt_cmp (do_eq hr.units) (dcall C_law_any hr (by decide) (da_cons (dv 0) (da_cons (de_int) (da_nil)))) (de_int) (nomark _))))) (dss_one (ds_set (i := 7) sc_law_names.nd rfl (Or.inl rfl) (dcall C_law_of hr (by decide) (da_cons (dv 0) (da_cons (de_lst (da_cons (de_str) (da_cons (de_str) (da_cons (de_str) (da_cons (de_str) (da_cons (de_str) (da_cons (de_str) (da_cons (de_str) (da_cons (de_str) (da_cons (de_str) (da_cons (de_str) (da_cons (de_str) (da_cons (de_str) (da_nil)))))))))))))) (da_nil)))))) (dss_one (ds_set (i := 7) sc_law_names.nd rfl (Or.inl rfl) (de_m PySem.F.plainAttrs_str PySem.F.slot_str_join PySem.F.type_str_join ty_str dm_join (de_str) (da_cons (de_lc rfl sc_law_names.nd (di_rng1 rfl T.n_range (de_bin do_add (de_int) (dcall C_law_any hr (by decide) (da_cons (dv 0) (da_cons (de_int) (da_nil)))))) (blkOk_by (N := N_law_names) (sc := defScope s_law_names) (own := [("sign", 9)]) (by decide +kernel)) (fun _ _ _ _ _ => dgc_name (i := 9) sc_law_names.nd rfl (by first | exact Or.inl rfl | exact Or.inr rfl) (by decide)) (fun _ _ _ _ _ => dts_nil) (fun _ _ _ _ _ => dcall C_law_of hr (by decide) (da_cons (dv 0) (da_cons (de_str) (da_nil))))) (da_nil))))))))
    (dss_cons (ds_for PassesOwn.never rfl (di_rng1 rfl T.n_range (de_int)) (dg_name (i := 8) sc_law_names.nd rfl (Or.inl rfl)) (dss_one (ds_if (dt_cmp (do_in (hu_of hr)) (dv 7) (dv 2) (by rfl)) (dss_one (ds_set (i := 7) sc_law_names.nd rfl (Or.inl rfl) (dcall C_law_next_name hr (by decide) (da_cons (dv 7) (da_nil))))) (dss_nil))))
    (dss_one (ds_expr (de_m PySem.F.plainAttrs_list PySem.F.slot_list_append PySem.F.type_list_append ty_list dm_append (dv 2) (da_cons (dv 7) (da_nil))))))))
    (dss_one (ds_ret (dv 2))))))
theorem ok_law_names (T : Tx K mg) (C_law_any : Cal P w K mg base 1 "_law_any" P_law_any S_law_any) (C_law_of : Cal P w K mg base 2 "_law_of" P_law_of S_law_of) (C_law_next_name : Cal P w K mg base 1 "_law_next_name" P_law_next_name S_law_next_name) {f : Addr} {fd : FuncData} (F : FunD K "_law_names" "_law_names" (defArgs s_law_names) (defBody s_law_names) (defScope s_law_names) [] [] f fd) (hm : mg "_law_names" = some (.ref f)) : Cal P w K mg base 3 "_law_names" P_law_names S_law_names :=
  ⟨f, fd, hm, F.kp, F.bindsN (fun _ _ _ _ _ _ us hl => match us, hl with | [_, _], _ => rfl), F.ok sc_law_names (fun vs H Q E h => keeps_len kp_law_names h) (fun cdv A outer s H vs Q E hr h => ⟨liftS K t_law_names, PSs.nox (d_law_names T C_law_any C_law_of C_law_next_name hr).pss, keeps_use (N := N_law_names) kp_law_names h⟩)⟩
abbrev s_law_row : Stmt := top 19
abbrev N_law_row : List Str := ["deal", "many", "place"]
abbrev P_law_row : List Str := ["deal", "many"]
theorem sc_law_row : FnScope N_law_row P_law_row (defScope s_law_row) := ⟨rfl, rfl, rfl, by decide +kernel, rfl, by decide +kernel, by decide +kernel⟩
theorem d_law_row (T : Tx K mg) (C_law_mixed : Cal P w K mg base 2 "_law_mixed" P_law_mixed S_law_mixed) (C_law_any : Cal P w K mg base 1 "_law_any" P_law_any S_law_any) {f : Addr} {cdv : Value} {A : Around} {outer : List PySem.Env} {s : Shared} {H : Hp} {E : XK} (hr : Room 2 (A.deeper (envOfC "_law_row" (defScope s_law_row) s.heap.objs.size f cdv))) :
    DSs (cxOf CX0 P w K mg base N_law_row "_law_row" (defScope s_law_row) f cdv A outer s H E).nox (defBody s_law_row) t_law_row := by
  exact dss_one (ds_ret (de_ifExp (DW.dt (dw_or (dt_cmp (do_eq hr.units) (dv 1) (de_int) (nomark _)) (dw_or1 (dt_cmp (do_eq hr.units) (dcall C_law_any hr (by decide) (da_cons (dv 0) (da_cons (de_int) (da_nil)))) (de_int) (nomark _))))) (de_tup (da_nil)) (de_callTy dc_tuple rfl T.n_tuple boot_tuple (da_cons (dcall C_law_mixed hr (by decide) (da_cons (dv 0) (da_cons (de_lc rfl sc_law_row.nd (di_rng1 rfl T.n_range (dv 1)) (blkOk_by (N := N_law_row) (sc := defScope s_law_row) (own := [("place", 2)]) (by decide +kernel)) (fun _ _ _ _ _ => dgc_name (i := 2) sc_law_row.nd rfl (by first | exact Or.inl rfl | exact Or.inr rfl) (by decide)) (fun _ _ _ _ _ => dts_nil) (fun _ _ _ _ _ => de_bin do_add (dv 2) (de_int))) (da_nil)))) (da_nil)))))
theorem ok_law_row (T : Tx K mg) (C_law_mixed : Cal P w K mg base 2 "_law_mixed" P_law_mixed S_law_mixed) (C_law_any : Cal P w K mg base 1 "_law_any" P_law_any S_law_any) {f : Addr} {fd : FuncData} (F : FunD K "_law_row" "_law_row" (defArgs s_law_row) (defBody s_law_row) (defScope s_law_row) [] [] f fd) (hm : mg "_law_row" = some (.ref f)) : Cal P w K mg base 3 "_law_row" P_law_row S_law_row :=
  ⟨f, fd, hm, F.kp, F.bindsN (fun _ _ _ _ _ _ us hl => match us, hl with | [_, _], _ => rfl), F.ok sc_law_row (fun vs H Q E h => keeps_len kp_law_row h) (fun cdv A outer s H vs Q E hr h => ⟨liftS K t_law_row, PSs.nox (d_law_row T C_law_mixed C_law_any hr).pss, keeps_use (N := N_law_row) kp_law_row h⟩)⟩
abbrev s_law_few : Stmt := top 20
abbrev N_law_few : List Str := ["deal", "many"]
abbrev P_law_few : List Str := ["deal", "many"]
theorem sc_law_few : FnScope N_law_few P_law_few (defScope s_law_few) := ⟨rfl, rfl, rfl, by decide +kernel, rfl, by decide +kernel, by decide +kernel⟩
theorem d_law_few (T : Tx K mg) (C_law_any : Cal P w K mg base 1 "_law_any" P_law_any S_law_any) {f : Addr} {cdv : Value} {A : Around} {outer : List PySem.Env} {s : Shared} {H : Hp} {E : XK} (hr : Room 1 (A.deeper (envOfC "_law_few" (defScope s_law_few) s.heap.objs.size f cdv))) :
    DSs (cxOf CX0 P w K mg base N_law_few "_law_few" (defScope s_law_few) f cdv A outer s H E).nox (defBody s_law_few) t_law_few := by
  exact dss_one (ds_ret (de_bin do_add (de_int) (dcall C_law_any hr (by decide) (da_cons (dv 0) (da_cons (dv 1) (da_nil))))))
theorem ok_law_few (T : Tx K mg) (C_law_any : Cal P w K mg base 1 "_law_any" P_law_any S_law_any) {f : Addr} {fd : FuncData} (F : FunD K "_law_few" "_law_few" (defArgs s_law_few) (defBody s_law_few) (defScope s_law_few) [] [] f fd) (hm : mg "_law_few" = some (.ref f)) : Cal P w K mg base 2 "_law_few" P_law_few S_law_few :=
  ⟨f, fd, hm, F.kp, F.bindsN (fun _ _ _ _ _ _ us hl => match us, hl with | [_, _], _ => rfl), F.ok sc_law_few (fun vs H Q E h => keeps_len kp_law_few h) (fun cdv A outer s H vs Q E hr h => ⟨liftS K t_law_few, PSs.nox (d_law_few T C_law_any hr).pss, keeps_use (N := N_law_few) kp_law_few h⟩)⟩
abbrev s_law_signs_named : Stmt := top 21
abbrev N_law_signs_named : List Str := ["term", "name", "many"]
abbrev P_law_signs_named : List Str := ["term"]
theorem sc_law_signs_named : FnScope N_law_signs_named P_law_signs_named (defScope s_law_signs_named) := ⟨rfl, rfl, rfl, by decide +kernel, rfl, by decide +kernel, by decide +kernel⟩
theorem d_law_signs_named (T : Tx K mg) {f : Addr} {cdv : Value} {A : Around} {outer : List PySem.Env} {s : Shared} {H : Hp} {E : XK} (hr : Room 0 (A.deeper (envOfC "_law_signs_named" (defScope s_law_signs_named) s.heap.objs.size f cdv))) :
    DSs (cxOf CX0 P w K mg base N_law_signs_named "_law_signs_named" (defScope s_law_signs_named) f cdv A outer s H E).nox (defBody s_law_signs_named) t_law_signs_named := by
  exact dss_one (ds_ret (de_lc rfl sc_law_signs_named.nd (di_seq (dv 0)) (blkOk_by (N := N_law_signs_named) (sc := defScope s_law_signs_named) (own := [("name", 1), ("many", 2)]) (by decide +kernel)) (fun _ _ _ _ _ => dgc_tup rfl (dgsc_cons (dgc_name (i := 1) sc_law_signs_named.nd rfl (by first | exact Or.inl rfl | exact Or.inr rfl) (by decide)) (dgsc_cons (dgc_name (i := 2) sc_law_signs_named.nd rfl (by first | exact Or.inl rfl | exact Or.inr rfl) (by decide)) (dgsc_nil)))) (fun _ _ _ _ _ => dts_one (dt_cmp do_ge (dv 2) (de_int) (nomark _))) (fun _ _ _ _ _ => dv 1)))
theorem ok_law_signs_named (T : Tx K mg) {f : Addr} {fd : FuncData} (F : FunD K "_law_signs_named" "_law_signs_named" (defArgs s_law_signs_named) (defBody s_law_signs_named) (defScope s_law_signs_named) [] [] f fd) (hm : mg "_law_signs_named" = some (.ref f)) : Cal P w K mg base 1 "_law_signs_named" P_law_signs_named S_law_signs_named :=
  ⟨f, fd, hm, F.kp, F.bindsN (fun _ _ _ _ _ _ us hl => match us, hl with | [_], _ => rfl), F.ok sc_law_signs_named (fun vs H Q E h => keeps_len kp_law_signs_named h) (fun cdv A outer s H vs Q E hr h => ⟨liftS K t_law_signs_named, PSs.nox (d_law_signs_named T  hr).pss, keeps_use (N := N_law_signs_named) kp_law_signs_named h⟩)⟩
abbrev s_law_own_name : Stmt := top 22
abbrev N_law_own_name : List Str := ["line"]
abbrev P_law_own_name : List Str := ["line"]
theorem sc_law_own_name : FnScope N_law_own_name P_law_own_name (defScope s_law_own_name) := ⟨rfl, rfl, rfl, by decide +kernel, rfl, by decide +kernel, by decide +kernel⟩
theorem d_law_own_name (T : Tx K mg) {f : Addr} {cdv : Value} {A : Around} {outer : List PySem.Env} {s : Shared} {H : Hp} {E : XK} (hr : Room 0 (A.deeper (envOfC "_law_own_name" (defScope s_law_own_name) s.heap.objs.size f cdv))) :
    DSs (cxOf CX0 P w K mg base N_law_own_name "_law_own_name" (defScope s_law_own_name) f cdv A outer s H E).nox (defBody s_law_own_name) t_law_own_name := by
  exact dss_one (ds_ret (de_ifExp (dt_cmp (do_in (hu_of hr)) (de_ix (di_all (hu_of hr)) (dv 0) (de_int)) (de_lst (da_cons (de_str) (da_cons (de_str) (da_cons (de_str) (da_cons (de_str) (da_cons (de_str) (da_nil))))))) (by rfl)) (de_ix (di_all (hu_of hr)) (dv 0) (de_int)) (de_str)))
theorem ok_law_own_name (T : Tx K mg) {f : Addr} {fd : FuncData} (F : FunD K "_law_own_name" "_law_own_name" (defArgs s_law_own_name) (defBody s_law_own_name) (defScope s_law_own_name) [] [] f fd) (hm : mg "_law_own_name" = some (.ref f)) : Cal P w K mg base 1 "_law_own_name" P_law_own_name S_law_own_name :=
  ⟨f, fd, hm, F.kp, F.bindsN (fun _ _ _ _ _ _ us hl => match us, hl with | [_], _ => rfl), F.ok sc_law_own_name (fun vs H Q E h => keeps_len kp_law_own_name h) (fun cdv A outer s H vs Q E hr h => ⟨liftS K t_law_own_name, PSs.nox (d_law_own_name T  hr).pss, keeps_use (N := N_law_own_name) kp_law_own_name h⟩)⟩
abbrev s_law_lot_of : Stmt := top 23
abbrev N_law_lot_of : List Str := ["names", "found", "name"]
abbrev P_law_lot_of : List Str := ["names"]
theorem sc_law_lot_of : FnScope N_law_lot_of P_law_lot_of (defScope s_law_lot_of) := ⟨rfl, rfl, rfl, by decide +kernel, rfl, by decide +kernel, by decide +kernel⟩
theorem d_law_lot_of (T : Tx K mg) {f : Addr} {cdv : Value} {A : Around} {outer : List PySem.Env} {s : Shared} {H : Hp} {E : XK} (hr : Room 0 (A.deeper (envOfC "_law_lot_of" (defScope s_law_lot_of) s.heap.objs.size f cdv))) :
    DSs (cxOf CX0 P w K mg base N_law_lot_of "_law_lot_of" (defScope s_law_lot_of) f cdv A outer s H E).nox (defBody s_law_lot_of) t_law_lot_of := by
  exact dss_cons (ds_set (i := 1) sc_law_lot_of.nd rfl (Or.inl rfl) (de_lst (da_nil)))
    (dss_cons (ds_for PassesOwn.never rfl (di_seq (de_callB (dc_sorted rfl) rfl T.n_sorted boot_sorted (da_cons (dv 0) (da_nil)))) (dg_name (i := 2) sc_law_lot_of.nd rfl (Or.inl rfl)) (dss_one (ds_if (DW.dt (dw_or (dt_eqNil hr.units (dv 1)) (dw_or1 (dt_cmp (do_ne hr.units) (de_ix (di_all (hu_of hr)) (dv 1) (de_neg)) (dv 2) (nomark _))))) (dss_one (ds_expr (de_m PySem.F.plainAttrs_list PySem.F.slot_list_append PySem.F.type_list_append ty_list dm_append (dv 1) (da_cons (dv 2) (da_nil))))) (dss_nil))))
    (dss_one (ds_ret (de_callTy dc_tuple rfl T.n_tuple boot_tuple (da_cons (dv 1) (da_nil))))))
theorem ok_law_lot_of (T : Tx K mg) {f : Addr} {fd : FuncData} (F : FunD K "_law_lot_of" "_law_lot_of" (defArgs s_law_lot_of) (defBody s_law_lot_of) (defScope s_law_lot_of) [] [] f fd) (hm : mg "_law_lot_of" = some (.ref f)) : Cal P w K mg base 1 "_law_lot_of" P_law_lot_of S_law_lot_of :=
  ⟨f, fd, hm, F.kp, F.bindsN (fun _ _ _ _ _ _ us hl => match us, hl with | [_], _ => rfl), F.ok sc_law_lot_of (fun vs H Q E h => keeps_len kp_law_lot_of h) (fun cdv A outer s H vs Q E hr h => ⟨liftS K t_law_lot_of, PSs.nox (d_law_lot_of T  hr).pss, keeps_use (N := N_law_lot_of) kp_law_lot_of h⟩)⟩
abbrev s_law_touched : Stmt := top 24
abbrev N_law_touched : List Str := ["lines", "found", "line"]
abbrev P_law_touched : List Str := ["lines"]
theorem sc_law_touched : FnScope N_law_touched P_law_touched (defScope s_law_touched) := ⟨rfl, rfl, rfl, by decide +kernel, rfl, by decide +kernel, by decide +kernel⟩
theorem d_law_touched (T : Tx K mg) (C_law_lot_of : Cal P w K mg base 1 "_law_lot_of" P_law_lot_of S_law_lot_of) (C_law_own_name : Cal P w K mg base 1 "_law_own_name" P_law_own_name S_law_own_name) (C_law_signs_named : Cal P w K mg base 1 "_law_signs_named" P_law_signs_named S_law_signs_named) {f : Addr} {cdv : Value} {A : Around} {outer : List PySem.Env} {s : Shared} {H : Hp} {E : XK} (hr : Room 1 (A.deeper (envOfC "_law_touched" (defScope s_law_touched) s.heap.objs.size f cdv))) :
    DSs (cxOf CX0 P w K mg base N_law_touched "_law_touched" (defScope s_law_touched) f cdv A outer s H E).nox (defBody s_law_touched) t_law_touched := by
  exact dss_cons (ds_set (i := 1) sc_law_touched.nd rfl (Or.inl rfl) (de_lst (da_nil)))
    (dss_cons (ds_for PassesOwn.never rfl (di_seq (dv 0)) (dg_name (i := 2) sc_law_touched.nd rfl (Or.inl rfl)) (dss_cons (ds_if (dt_cmp (do_ne hr.units) (dcall C_law_own_name hr (by decide) (da_cons (dv 2) (da_nil))) (de_str) (nomark _)) (dss_one (ds_expr (de_m PySem.F.plainAttrs_list PySem.F.slot_list_append PySem.F.type_list_append ty_list dm_append (dv 1) (da_cons (de_ix (di_all (hu_of hr)) (dv 2) (de_int)) (da_nil))))) (dss_nil))
    (dss_cons (ds_if (dt_cmp (do_eq hr.units) (de_ix (di_all (hu_of hr)) (dv 2) (de_int)) (de_str) (nomark _)) (dss_one (ds_set (i := 1) sc_law_touched.nd rfl (Or.inl rfl) (de_bin do_add (dv 1) (dcall C_law_signs_named hr (by decide) (da_cons (de_ix (di_all (hu_of hr)) (dv 2) (de_int)) (da_nil)))))) (dss_nil))
    (dss_one (ds_if (dt_cmp (do_eq hr.units) (de_ix (di_all (hu_of hr)) (dv 2) (de_int)) (de_str) (nomark _)) (dss_one (ds_expr (de_m PySem.F.plainAttrs_list PySem.F.slot_list_append PySem.F.type_list_append ty_list dm_append (dv 1) (da_cons (de_str) (da_nil))))) (dss_nil))))))
    (dss_one (ds_ret (dcall C_law_lot_of hr (by decide) (da_cons (dv 1) (da_nil))))))
theorem ok_law_touched (T : Tx K mg) (C_law_lot_of : Cal P w K mg base 1 "_law_lot_of" P_law_lot_of S_law_lot_of) (C_law_own_name : Cal P w K mg base 1 "_law_own_name" P_law_own_name S_law_own_name) (C_law_signs_named : Cal P w K mg base 1 "_law_signs_named" P_law_signs_named S_law_signs_named) {f : Addr} {fd : FuncData} (F : FunD K "_law_touched" "_law_touched" (defArgs s_law_touched) (defBody s_law_touched) (defScope s_law_touched) [] [] f fd) (hm : mg "_law_touched" = some (.ref f)) : Cal P w K mg base 2 "_law_touched" P_law_touched S_law_touched :=
  ⟨f, fd, hm, F.kp, F.bindsN (fun _ _ _ _ _ _ us hl => match us, hl with | [_], _ => rfl), F.ok sc_law_touched (fun vs H Q E h => keeps_len kp_law_touched h) (fun cdv A outer s H vs Q E hr h => ⟨liftS K t_law_touched, PSs.nox (d_law_touched T C_law_lot_of C_law_own_name C_law_signs_named hr).pss, keeps_use (N := N_law_touched) kp_law_touched h⟩)⟩
abbrev s_law_names_but : Stmt := top 25
abbrev N_law_names_but : List Str := ["deal", "many", "name"]
abbrev P_law_names_but : List Str := ["deal", "many"]
theorem sc_law_names_but : FnScope N_law_names_but P_law_names_but (defScope s_law_names_but) := ⟨rfl, rfl, rfl, by decide +kernel, rfl, by decide +kernel, by decide +kernel⟩
theorem d_law_names_but (T : Tx K mg) (C_law_names : Cal P w K mg base 3 "_law_names" P_law_names S_law_names) {f : Addr} {cdv : Value} {A : Around} {outer : List PySem.Env} {s : Shared} {H : Hp} {E : XK} (hr : Room 3 (A.deeper (envOfC "_law_names_but" (defScope s_law_names_but) s.heap.objs.size f cdv))) :
    DSs (cxOf CX0 P w K mg base N_law_names_but "_law_names_but" (defScope s_law_names_but) f cdv A outer s H E).nox (defBody s_law_names_but) t_law_names_but := by
  exact dss_one (ds_ret (de_sl (de_lc rfl sc_law_names_but.nd (di_seq (dcall C_law_names hr (by decide) (da_cons (dv 0) (da_cons (de_bin do_add (dv 1) (de_int)) (da_nil))))) (blkOk_by (N := N_law_names_but) (sc := defScope s_law_names_but) (own := [("name", 2)]) (by decide +kernel)) (fun _ _ _ _ _ => dgc_name (i := 2) sc_law_names_but.nd rfl (by first | exact Or.inl rfl | exact Or.inr rfl) (by decide)) (fun _ _ _ _ _ => dts_one (dt_cmp (do_ne hr.units) (dv 2) (de_str) (nomark _))) (fun _ _ _ _ _ => dv 2)) (dp_none) (dp_some (dv 1))))
theorem ok_law_names_but (T : Tx K mg) (C_law_names : Cal P w K mg base 3 "_law_names" P_law_names S_law_names) {f : Addr} {fd : FuncData} (F : FunD K "_law_names_but" "_law_names_but" (defArgs s_law_names_but) (defBody s_law_names_but) (defScope s_law_names_but) [] [] f fd) (hm : mg "_law_names_but" = some (.ref f)) : Cal P w K mg base 4 "_law_names_but" P_law_names_but S_law_names_but :=
  ⟨f, fd, hm, F.kp, F.bindsN (fun _ _ _ _ _ _ us hl => match us, hl with | [_, _], _ => rfl), F.ok sc_law_names_but (fun vs H Q E h => keeps_len kp_law_names_but h) (fun cdv A outer s H vs Q E hr h => ⟨liftS K t_law_names_but, PSs.nox (d_law_names_but T C_law_names hr).pss, keeps_use (N := N_law_names_but) kp_law_names_but h⟩)⟩
abbrev s_law_some_term : Stmt := top 26
abbrev N_law_some_term : List Str := ["deal", "names", "letters", "most", "found", "due", "turn", "many"]
abbrev P_law_some_term : List Str := ["deal", "names", "letters", "most"]
theorem sc_law_some_term : FnScope N_law_some_term P_law_some_term (defScope s_law_some_term) := ⟨rfl, rfl, rfl, by decide +kernel, rfl, by decide +kernel, by decide +kernel⟩
theorem d_law_some_term (T : Tx K mg) (C_law_of : Cal P w K mg base 2 "_law_of" P_law_of S_law_of) (C_law_any : Cal P w K mg base 1 "_law_any" P_law_any S_law_any) {f : Addr} {cdv : Value} {A : Around} {outer : List PySem.Env} {s : Shared} {H : Hp} {E : XK} (hr : Room 2 (A.deeper (envOfC "_law_some_term" (defScope s_law_some_term) s.heap.objs.size f cdv))) :
    DSs (cxOf CX0 P w K mg base N_law_some_term "_law_some_term" (defScope s_law_some_term) f cdv A outer s H E).nox (defBody s_law_some_term) t_law_some_term := by
  exact dss_cons (ds_par (i := 4) (j := 5) rfl sc_law_some_term.nd rfl rfl (by decide) rfl rfl (da_cons (de_lst (da_nil)) (da_cons (de_int) (da_nil))) (by rfl))
    (dss_cons (ds_for PassesOwn.never rfl (di_rng1 rfl T.n_range (dv 3)) (dg_name (i := 6) sc_law_some_term.nd rfl (Or.inl rfl)) (dss_one (ds_if (dt_cmp do_gt (dv 5) (de_int) (nomark _)) (dss_cons (ds_set (i := 7) sc_law_some_term.nd rfl (Or.inl rfl) (de_callB (dc_min rfl) rfl T.n_min (by decide +kernel) (da_cons (dcall C_law_of hr (by decide) (da_cons (dv 0) (da_cons (de_lst (da_cons (de_int) (da_cons (de_int) (da_cons (de_int) (da_cons (de_int) (da_cons (de_int) (da_cons (de_int) (da_nil)))))))) (da_nil)))) (da_cons (de_bin do_sub (de_bin do_sub (dv 3) (de_callB dc_len rfl T.n_len PySem.boot_len (da_cons (dv 4) (da_nil)))) (dv 5)) (da_nil)))))
    (dss_cons (ds_if (DW.dt (dw_and (dt_cmp (do_eq hr.units) (dv 7) (de_int) (nomark _)) (dw_and (dt_neNil hr.units (dv 2)) (dw_and1 (dt_cmp (do_eq hr.units) (dcall C_law_any hr (by decide) (da_cons (dv 0) (da_cons (de_int) (da_nil)))) (de_int) (nomark _)))))) (dss_one (ds_expr (de_m PySem.F.plainAttrs_list PySem.F.slot_list_append PySem.F.type_list_append ty_list dm_append (dv 4) (da_cons (de_tup (da_cons (dcall C_law_of hr (by decide) (da_cons (dv 0) (da_cons (dv 2) (da_nil)))) (da_cons (de_bin do_sub (de_int) (de_int)) (da_nil)))) (da_nil))))) (dss_one (ds_expr (de_m PySem.F.plainAttrs_list PySem.F.slot_list_append PySem.F.type_list_append ty_list dm_append (dv 4) (da_cons (de_tup (da_cons (dcall C_law_of hr (by decide) (da_cons (dv 0) (da_cons (dv 1) (da_nil)))) (da_cons (dv 7) (da_nil)))) (da_nil))))))
    (dss_one (ds_set (i := 5) sc_law_some_term.nd rfl (Or.inl rfl) (de_bin do_sub (de_bin do_add (dv 5) (dv 7)) (de_int)))))) (dss_nil))))
    (dss_one (ds_ret (de_callTy dc_tuple rfl T.n_tuple boot_tuple (da_cons (dv 4) (da_nil))))))
theorem ok_law_some_term (T : Tx K mg) (C_law_of : Cal P w K mg base 2 "_law_of" P_law_of S_law_of) (C_law_any : Cal P w K mg base 1 "_law_any" P_law_any S_law_any) {f : Addr} {fd : FuncData} (F : FunD K "_law_some_term" "_law_some_term" (defArgs s_law_some_term) (defBody s_law_some_term) (defScope s_law_some_term) [] [] f fd) (hm : mg "_law_some_term" = some (.ref f)) : Cal P w K mg base 3 "_law_some_term" P_law_some_term S_law_some_term :=
  ⟨f, fd, hm, F.kp, F.bindsN (fun _ _ _ _ _ _ us hl => match us, hl with | [_, _, _, _], _ => rfl), F.ok sc_law_some_term (fun vs H Q E h => keeps_len kp_law_some_term h) (fun cdv A outer s H vs Q E hr h => ⟨liftS K t_law_some_term, PSs.nox (d_law_some_term T C_law_of C_law_any hr).pss, keeps_use (N := N_law_some_term) kp_law_some_term h⟩)⟩
abbrev s_law_some_kind : Stmt := top 27
abbrev N_law_some_kind : List Str := ["deal", "world", "terms", "turn"]
abbrev P_law_some_kind : List Str := ["deal", "world"]
theorem sc_law_some_kind : FnScope N_law_some_kind P_law_some_kind (defScope s_law_some_kind) := ⟨rfl, rfl, rfl, by decide +kernel, rfl, by decide +kernel, by decide +kernel⟩
theorem d_law_some_kind (T : Tx K mg) (C_law_some_term : Cal P w K mg base 3 "_law_some_term" P_law_some_term S_law_some_term) (C_law_of : Cal P w K mg base 2 "_law_of" P_law_of S_law_of) {f : Addr} {cdv : Value} {A : Around} {outer : List PySem.Env} {s : Shared} {H : Hp} {E : XK} (hr : Room 3 (A.deeper (envOfC "_law_some_kind" (defScope s_law_some_kind) s.heap.objs.size f cdv))) :
    DSs (cxOf CX0 P w K mg base N_law_some_kind "_law_some_kind" (defScope s_law_some_kind) f cdv A outer s H E).nox (defBody s_law_some_kind) t_law_some_kind := by
  exact dss_cons (ds_setLc (i := 2) rfl sc_law_some_kind.nd rfl rfl (sw_true rfl rfl rfl (by decide +kernel)) (di_rng1 rfl T.n_range (dcall C_law_of hr (by decide) (da_cons (dv 0) (da_cons (de_lst (da_cons (de_int) (da_cons (de_int) (da_cons (de_int) (da_cons (de_int) (da_nil)))))) (da_nil))))) (blkOk_by (N := N_law_some_kind) (sc := defScope s_law_some_kind) (own := [("turn", 3)]) (by decide +kernel)) (fun _ _ _ _ _ => dgc_name (i := 3) sc_law_some_kind.nd rfl (by first | exact Or.inl rfl | exact Or.inr rfl) (by decide)) (fun _ _ _ _ _ => dts_nil) (fun _ _ _ _ _ => dcall C_law_some_term hr (by decide) (da_cons (dv 0) (da_cons (de_ix (di_all (hu_of hr)) (dv 1) (de_str)) (da_cons (de_ix (di_all (hu_of hr)) (dv 1) (de_str)) (da_cons (de_int) (da_nil)))))))
    (dss_one (ds_ret (de_tup (da_cons (dcall C_law_of hr (by decide) (da_cons (dv 0) (da_cons (de_ix (di_all (hu_of hr)) (dv 1) (de_str)) (da_nil)))) (da_cons (de_callTy dc_tuple rfl T.n_tuple boot_tuple (da_cons (dv 2) (da_nil))) (da_nil))))))
theorem ok_law_some_kind (T : Tx K mg) (C_law_some_term : Cal P w K mg base 3 "_law_some_term" P_law_some_term S_law_some_term) (C_law_of : Cal P w K mg base 2 "_law_of" P_law_of S_law_of) {f : Addr} {fd : FuncData} (F : FunD K "_law_some_kind" "_law_some_kind" (defArgs s_law_some_kind) (defBody s_law_some_kind) (defScope s_law_some_kind) [] [] f fd) (hm : mg "_law_some_kind" = some (.ref f)) : Cal P w K mg base 4 "_law_some_kind" P_law_some_kind S_law_some_kind :=
  ⟨f, fd, hm, F.kp, F.bindsN (fun _ _ _ _ _ _ us hl => match us, hl with | [_, _], _ => rfl), F.ok sc_law_some_kind (fun vs H Q E h => keeps_len kp_law_some_kind h) (fun cdv A outer s H vs Q E hr h => ⟨liftS K t_law_some_kind, PSs.nox (d_law_some_kind T C_law_some_term C_law_of hr).pss, keeps_use (N := N_law_some_kind) kp_law_some_kind h⟩)⟩
abbrev s_law_some_pairs : Stmt := top 28
abbrev N_law_some_pairs : List Str := ["deal", "world", "many", "name"]
abbrev P_law_some_pairs : List Str := ["deal", "world", "many"]
theorem sc_law_some_pairs : FnScope N_law_some_pairs P_law_some_pairs (defScope s_law_some_pairs) := ⟨rfl, rfl, rfl, by decide +kernel, rfl, by decide +kernel, by decide +kernel⟩
theorem d_law_some_pairs (T : Tx K mg) (C_law_some_kind : Cal P w K mg base 4 "_law_some_kind" P_law_some_kind S_law_some_kind) (C_law_mixed : Cal P w K mg base 2 "_law_mixed" P_law_mixed S_law_mixed) (C_law_any : Cal P w K mg base 1 "_law_any" P_law_any S_law_any) {f : Addr} {cdv : Value} {A : Around} {outer : List PySem.Env} {s : Shared} {H : Hp} {E : XK} (hr : Room 4 (A.deeper (envOfC "_law_some_pairs" (defScope s_law_some_pairs) s.heap.objs.size f cdv))) :
    DSs (cxOf CX0 P w K mg base N_law_some_pairs "_law_some_pairs" (defScope s_law_some_pairs) f cdv A outer s H E).nox (defBody s_law_some_pairs) t_law_some_pairs := by
  exact dss_one (ds_ret (de_callTy dc_tuple rfl T.n_tuple boot_tuple (da_cons (de_lc rfl sc_law_some_pairs.nd (di_seq (de_sl (dcall C_law_mixed hr (by decide) (da_cons (dv 0) (da_cons (de_ix (di_all (hu_of hr)) (dv 1) (de_str)) (da_nil)))) (dp_none) (dp_some (dcall C_law_any hr (by decide) (da_cons (dv 0) (da_cons (de_bin do_add (dv 2) (de_int)) (da_nil))))))) (blkOk_by (N := N_law_some_pairs) (sc := defScope s_law_some_pairs) (own := [("name", 3)]) (by decide +kernel)) (fun _ _ _ _ _ => dgc_name (i := 3) sc_law_some_pairs.nd rfl (by first | exact Or.inl rfl | exact Or.inr rfl) (by decide)) (fun _ _ _ _ _ => dts_nil) (fun _ _ _ _ _ => de_tup (da_cons (dv 3) (da_cons (dcall C_law_some_kind hr (by decide) (da_cons (dv 0) (da_cons (dv 1) (da_nil)))) (da_nil))))) (da_nil))))
theorem ok_law_some_pairs (T : Tx K mg) (C_law_some_kind : Cal P w K mg base 4 "_law_some_kind" P_law_some_kind S_law_some_kind) (C_law_mixed : Cal P w K mg base 2 "_law_mixed" P_law_mixed S_law_mixed) (C_law_any : Cal P w K mg base 1 "_law_any" P_law_any S_law_any) {f : Addr} {fd : FuncData} (F : FunD K "_law_some_pairs" "_law_some_pairs" (defArgs s_law_some_pairs) (defBody s_law_some_pairs) (defScope s_law_some_pairs) [] [] f fd) (hm : mg "_law_some_pairs" = some (.ref f)) : Cal P w K mg base 5 "_law_some_pairs" P_law_some_pairs S_law_some_pairs :=
  ⟨f, fd, hm, F.kp, F.bindsN (fun _ _ _ _ _ _ us hl => match us, hl with | [_, _, _], _ => rfl), F.ok sc_law_some_pairs (fun vs H Q E h => keeps_len kp_law_some_pairs h) (fun cdv A outer s H vs Q E hr h => ⟨liftS K t_law_some_pairs, PSs.nox (d_law_some_pairs T C_law_some_kind C_law_mixed C_law_any hr).pss, keeps_use (N := N_law_some_pairs) kp_law_some_pairs h⟩)⟩
abbrev s_law_some_filling : Stmt := top 29
abbrev N_law_some_filling : List Str := ["deal", "world", "names", "name"]
abbrev P_law_some_filling : List Str := ["deal", "world"]
theorem sc_law_some_filling : FnScope N_law_some_filling P_law_some_filling (defScope s_law_some_filling) := ⟨rfl, rfl, rfl, by decide +kernel, rfl, by decide +kernel, by decide +kernel⟩
theorem d_law_some_filling (T : Tx K mg) (C_law_mixed : Cal P w K mg base 2 "_law_mixed" P_law_mixed S_law_mixed) (C_law_any : Cal P w K mg base 1 "_law_any" P_law_any S_law_any) (C_law_some_term : Cal P w K mg base 3 "_law_some_term" P_law_some_term S_law_some_term) {f : Addr} {cdv : Value} {A : Around} {outer : List PySem.Env} {s : Shared} {H : Hp} {E : XK} (hr : Room 3 (A.deeper (envOfC "_law_some_filling" (defScope s_law_some_filling) s.heap.objs.size f cdv))) :
    DSs (cxOf CX0 P w K mg base N_law_some_filling "_law_some_filling" (defScope s_law_some_filling) f cdv A outer s H E).nox (defBody s_law_some_filling) t_law_some_filling := by
  exact dss_cons (ds_set (i := 2) sc_law_some_filling.nd rfl (Or.inl rfl) (de_callB (dc_sorted rfl) rfl T.n_sorted boot_sorted (da_cons (de_sl (dcall C_law_mixed hr (by decide) (da_cons (dv 0) (da_cons (de_ix (di_all (hu_of hr)) (dv 1) (de_str)) (da_nil)))) (dp_none) (dp_some (dcall C_law_any hr (by decide) (da_cons (dv 0) (da_cons (de_int) (da_nil)))))) (da_nil))))
    (dss_one (ds_ret (de_callTy dc_tuple rfl T.n_tuple boot_tuple (da_cons (de_lc rfl sc_law_some_filling.nd (di_seq (dv 2)) (blkOk_by (N := N_law_some_filling) (sc := defScope s_law_some_filling) (own := [("name", 3)]) (by decide +kernel)) (fun _ _ _ _ _ => dgc_name (i := 3) sc_law_some_filling.nd rfl (by first | exact Or.inl rfl | exact Or.inr rfl) (by decide)) (fun _ _ _ _ _ => dts_nil) (fun _ _ _ _ _ => de_tup (da_cons (dv 3) (da_cons (dcall C_law_some_term hr (by decide) (da_cons (dv 0) (da_cons (de_ix (di_all (hu_of hr)) (dv 1) (de_str)) (da_cons (de_ix (di_all (hu_of hr)) (dv 1) (de_str)) (da_cons (de_int) (da_nil)))))) (da_nil))))) (da_nil)))))
theorem ok_law_some_filling (T : Tx K mg) (C_law_mixed : Cal P w K mg base 2 "_law_mixed" P_law_mixed S_law_mixed) (C_law_any : Cal P w K mg base 1 "_law_any" P_law_any S_law_any) (C_law_some_term : Cal P w K mg base 3 "_law_some_term" P_law_some_term S_law_some_term) {f : Addr} {fd : FuncData} (F : FunD K "_law_some_filling" "_law_some_filling" (defArgs s_law_some_filling) (defBody s_law_some_filling) (defScope s_law_some_filling) [] [] f fd) (hm : mg "_law_some_filling" = some (.ref f)) : Cal P w K mg base 4 "_law_some_filling" P_law_some_filling S_law_some_filling :=
  ⟨f, fd, hm, F.kp, F.bindsN (fun _ _ _ _ _ _ us hl => match us, hl with | [_, _], _ => rfl), F.ok sc_law_some_filling (fun vs H Q E h => keeps_len kp_law_some_filling h) (fun cdv A outer s H vs Q E hr h => ⟨liftS K t_law_some_filling, PSs.nox (d_law_some_filling T C_law_mixed C_law_any C_law_some_term hr).pss, keeps_use (N := N_law_some_filling) kp_law_some_filling h⟩)⟩
abbrev s_law_some_tree : Stmt := top 30
abbrev N_law_some_tree : List Str := ["deal", "world", "tree", "turn", "what", "path", "branches", "step"]
abbrev P_law_some_tree : List Str := ["deal", "world"]
theorem sc_law_some_tree : FnScope N_law_some_tree P_law_some_tree (defScope s_law_some_tree) := ⟨rfl, rfl, rfl, by decide +kernel, rfl, by decide +kernel, by decide +kernel⟩
theorem d_law_some_tree (T : Tx K mg) (C_law_any : Cal P w K mg base 1 "_law_any" P_law_any S_law_any) (C_law_of : Cal P w K mg base 2 "_law_of" P_law_of S_law_of) (C_law_some_filling : Cal P w K mg base 4 "_law_some_filling" P_law_some_filling S_law_some_filling) (C_law_mixed : Cal P w K mg base 2 "_law_mixed" P_law_mixed S_law_mixed) {f : Addr} {cdv : Value} {A : Around} {outer : List PySem.Env} {s : Shared} {H : Hp} {E : XK} (hr : Room 4 (A.deeper (envOfC "_law_some_tree" (defScope s_law_some_tree) s.heap.objs.size f cdv))) :
    DSs (cxOf CX0 P w K mg base N_law_some_tree "_law_some_tree" (defScope s_law_some_tree) f cdv A outer s H E).nox (defBody s_law_some_tree) t_law_some_tree := by
  exact dss_cons (ds_set (i := 2) sc_law_some_tree.nd rfl (Or.inl rfl) (de_tup (da_cons (de_str) (da_nil))))
    (dss_cons (ds_for PassesOwn.never rfl (di_rng1 rfl T.n_range (dcall C_law_any hr (by decide) (da_cons (dv 0) (da_cons (de_int) (da_nil))))) (dg_name (i := 3) sc_law_some_tree.nd rfl (Or.inl rfl)) (dss_one (ds_if (dt_cmp (do_eq hr.units) (dcall C_law_any hr (by decide) (da_cons (dv 0) (da_cons (de_int) (da_nil)))) (de_int) (nomark _)) (dss_cons (ds_set (i := 4) sc_law_some_tree.nd rfl (Or.inl rfl) (de_tup (da_cons (dcall C_law_of hr (by decide) (da_cons (dv 0) (da_cons (de_lst (da_cons (de_str) (da_cons (de_str) (da_cons (de_str) (da_nil))))) (da_nil)))) (da_cons (dcall C_law_of hr (by decide) (da_cons (dv 0) (da_cons (de_lst (da_cons (de_int) (da_cons (de_int) (da_cons (de_int) (da_cons (de_int) (da_cons (de_int) (da_nil))))))) (da_nil)))) (da_nil)))))
    (dss_cons (ds_set (i := 5) sc_law_some_tree.nd rfl (Or.inl rfl) (de_callTy dc_tuple rfl T.n_tuple boot_tuple (da_cons (de_lc rfl sc_law_some_tree.nd (di_rng1 rfl T.n_range (dcall C_law_any hr (by decide) (da_cons (dv 0) (da_cons (de_int) (da_nil))))) (blkOk_by (N := N_law_some_tree) (sc := defScope s_law_some_tree) (own := [("step", 7)]) (by decide +kernel)) (fun _ _ _ _ _ => dgc_name (i := 7) sc_law_some_tree.nd rfl (by first | exact Or.inl rfl | exact Or.inr rfl) (by decide)) (fun _ _ _ _ _ => dts_nil) (fun _ _ _ _ _ => dcall C_law_any hr (by decide) (da_cons (dv 0) (da_cons (de_int) (da_nil))))) (da_nil))))
    (dss_one (ds_set (i := 2) sc_law_some_tree.nd rfl (Or.inl rfl) (de_tup (da_cons (de_str) (da_cons (dv 4) (da_cons (dcall C_law_any hr (by decide) (da_cons (dv 0) (da_cons (de_int) (da_nil)))) (da_cons (dv 5) (da_cons (de_cmp (do_eq hr.units) (dcall C_law_any hr (by decide) (da_cons (dv 0) (da_cons (de_int) (da_nil)))) (de_int) (nomark _)) (da_cons (dcall C_law_some_filling hr (by decide) (da_cons (dv 0) (da_cons (dv 1) (da_nil)))) (da_cons (dv 2) (da_nil))))))))))))) (dss_cons (ds_set (i := 6) sc_law_some_tree.nd rfl (Or.inl rfl) (de_lst (da_cons (de_tup (da_cons (dcall C_law_of hr (by decide) (da_cons (dv 0) (da_cons (de_ix (di_all (hu_of hr)) (dv 1) (de_str)) (da_nil)))) (da_cons (de_callTy dc_tuple rfl T.n_tuple boot_tuple (da_cons (de_sl (dcall C_law_mixed hr (by decide) (da_cons (dv 0) (da_cons (de_ix (di_all (hu_of hr)) (dv 1) (de_str)) (da_nil)))) (dp_none) (dp_some (dcall C_law_any hr (by decide) (da_cons (dv 0) (da_cons (de_int) (da_nil)))))) (da_nil))) (da_cons (dv 2) (da_nil))))) (da_nil))))
    (dss_cons (ds_if (dt_cmp (do_eq hr.units) (dcall C_law_any hr (by decide) (da_cons (dv 0) (da_cons (de_int) (da_nil)))) (de_int) (nomark _)) (dss_one (ds_expr (de_m PySem.F.plainAttrs_list PySem.F.slot_list_append PySem.F.type_list_append ty_list dm_append (dv 6) (da_cons (de_tup (da_cons (dcall C_law_of hr (by decide) (da_cons (dv 0) (da_cons (de_ix (di_all (hu_of hr)) (dv 1) (de_str)) (da_nil)))) (da_cons (de_tup (da_nil)) (da_cons (de_tup (da_cons (de_str) (da_nil))) (da_nil))))) (da_nil))))) (dss_nil))
    (dss_one (ds_set (i := 2) sc_law_some_tree.nd rfl (Or.inl rfl) (de_tup (da_cons (dcall C_law_of hr (by decide) (da_cons (dv 0) (da_cons (de_lst (da_cons (de_str) (da_cons (de_str) (da_nil)))) (da_nil)))) (da_cons (dcall C_law_of hr (by decide) (da_cons (dv 0) (da_cons (de_ix (di_all (hu_of hr)) (dv 1) (de_str)) (da_nil)))) (da_cons (de_callTy dc_tuple rfl T.n_tuple boot_tuple (da_cons (dv 6) (da_nil))) (da_nil))))))))))))
    (dss_one (ds_ret (dv 2))))
theorem ok_law_some_tree (T : Tx K mg) (C_law_any : Cal P w K mg base 1 "_law_any" P_law_any S_law_any) (C_law_of : Cal P w K mg base 2 "_law_of" P_law_of S_law_of) (C_law_some_filling : Cal P w K mg base 4 "_law_some_filling" P_law_some_filling S_law_some_filling) (C_law_mixed : Cal P w K mg base 2 "_law_mixed" P_law_mixed S_law_mixed) {f : Addr} {fd : FuncData} (F : FunD K "_law_some_tree" "_law_some_tree" (defArgs s_law_some_tree) (defBody s_law_some_tree) (defScope s_law_some_tree) [] [] f fd) (hm : mg "_law_some_tree" = some (.ref f)) : Cal P w K mg base 5 "_law_some_tree" P_law_some_tree S_law_some_tree :=
  ⟨f, fd, hm, F.kp, F.bindsN (fun _ _ _ _ _ _ us hl => match us, hl with | [_, _], _ => rfl), F.ok sc_law_some_tree (fun vs H Q E h => keeps_len kp_law_some_tree h) (fun cdv A outer s H vs Q E hr h => ⟨liftS K t_law_some_tree, PSs.nox (d_law_some_tree T C_law_any C_law_of C_law_some_filling C_law_mixed hr).pss, keeps_use (N := N_law_some_tree) kp_law_some_tree h⟩)⟩
abbrev s_law_some_line : Stmt := top 31
abbrev N_law_some_line : List Str := ["deal", "world", "word", "place", "names", "letters", "written", "one", "other", "told", "turn"]
abbrev P_law_some_line : List Str := ["deal", "world"]
theorem sc_law_some_line : FnScope N_law_some_line P_law_some_line (defScope s_law_some_line) := ⟨rfl, rfl, rfl, by decide +kernel, rfl, by decide +kernel, by decide +kernel⟩
theorem d_law_some_line (T : Tx K mg) (C_law_of : Cal P w K mg base 2 "_law_of" P_law_of S_law_of) (C_law_some_pairs : Cal P w K mg base 5 "_law_some_pairs" P_law_some_pairs S_law_some_pairs) (C_law_some_term : Cal P w K mg base 3 "_law_some_term" P_law_some_term S_law_some_term) (C_law_some_kind : Cal P w K mg base 4 "_law_some_kind" P_law_some_kind S_law_some_kind) (C_law_row : Cal P w K mg base 3 "_law_row" P_law_row S_law_row) (C_law_some_tree : Cal P w K mg base 5 "_law_some_tree" P_law_some_tree S_law_some_tree) (C_law_some_filling : Cal P w K mg base 4 "_law_some_filling" P_law_some_filling S_law_some_filling) (C_law_any : Cal P w K mg base 1 "_law_any" P_law_any S_law_any) {f : Addr} {cdv : Value} {A : Around} {outer : List PySem.Env} {s : Shared} {H : Hp} {E : XK} (hr : Room 5 (A.deeper (envOfC "_law_some_line" (defScope s_law_some_line) s.heap.objs.size f cdv))) :
    DSs (cxOf CX0 P w K mg base N_law_some_line "_law_some_line" (defScope s_law_some_line) f cdv A outer s H E).nox (defBody s_law_some_line) t_law_some_line := by
  exact dss_cons (ds_set (i := 2) sc_law_some_line.nd rfl (Or.inl rfl) (dcall C_law_of hr (by decide) (da_cons (dv 0) (da_cons (de_lst (da_cons (de_str) (da_cons (de_str) (da_cons (de_str) (da_cons (de_str) (da_cons (de_str) (da_cons (de_str) (da_cons (de_str) (da_cons (de_str) (da_cons (de_str) (da_cons (de_str) (da_cons (de_str) (da_cons (de_str) (da_cons (de_str) (da_nil))))))))))))))) (da_nil)))))
    (dss_cons (ds_set (i := 3) sc_law_some_line.nd rfl (Or.inl rfl) (de_ifExp (dt_cmp (do_eq hr.units) (dv 2) (de_str) (nomark _)) (de_str) (de_ifExp (dt_cmp (do_in (hu_of hr)) (dv 2) (de_lst (da_cons (de_str) (da_cons (de_str) (da_nil)))) (by rfl)) (de_str) (de_ifExp (dt_cmp (do_in (hu_of hr)) (dv 2) (de_lst (da_cons (de_str) (da_cons (de_str) (da_nil)))) (by rfl)) (de_str) (de_str)))))
    (dss_cons (ds_if (dt_cmp (do_ne hr.units) (dv 3) (de_str) (nomark _)) (dss_cons (ds_asg (de_bin do_sub (de_ix (di_all (hu_of hr)) (dv 1) (dv 3)) (de_int)) (dg_sub (dv 1) (dv 3) (dset_all (hu_of hr))))
    (dss_one (ds_set (i := 2) sc_law_some_line.nd rfl (Or.inl rfl) (de_ifExp (dt_cmp do_ge (de_ix (di_all (hu_of hr)) (dv 1) (dv 3)) (de_int) (nomark _)) (dv 2) (de_str))))) (dss_nil))
    (dss_cons (ds_par (i := 4) (j := 5) rfl sc_law_some_line.nd rfl rfl (by decide) rfl rfl (da_cons (de_ix (di_all (hu_of hr)) (dv 1) (de_str)) (da_cons (de_ix (di_all (hu_of hr)) (dv 1) (de_str)) (da_nil))) (by rfl))
    (dss_cons (ds_if (dt_cmp (do_eq hr.units) (dv 2) (de_str) (nomark _)) (dss_one (ds_ret (de_tup (da_cons (dv 2) (da_cons (dcall C_law_of hr (by decide) (da_cons (dv 0) (da_cons (de_ix (di_all (hu_of hr)) (dv 1) (de_str)) (da_nil)))) (da_cons (de_callTy dc_tuple rfl T.n_tuple boot_tuple (da_cons (de_lc rfl sc_law_some_line.nd (di_rng1 rfl T.n_range (dcall C_law_any hr (by decide) (da_cons (dv 0) (da_cons (de_int) (da_nil))))) (blkOk_by (N := N_law_some_line) (sc := defScope s_law_some_line) (own := [("turn", 10)]) (by decide +kernel)) (fun _ _ _ _ _ => dgc_name (i := 10) sc_law_some_line.nd rfl (by first | exact Or.inl rfl | exact Or.inr rfl) (by decide)) (fun _ _ _ _ _ => dts_nil) (fun _ _ _ _ _ => dcall C_law_of hr (by decide) (da_cons (dv 0) (da_cons (de_ix (di_all (hu_of hr)) (dv 1) (de_str)) (da_nil))))) (da_nil))) (da_nil))))))) (dss_nil))
    (dss_cons (ds_if (dt_cmp (do_eq hr.units) (dv 2) (de_str) (nomark _)) (dss_one (ds_ret (de_tup (da_cons (dv 2) (da_cons (dcall C_law_of hr (by decide) (da_cons (dv 0) (da_cons (de_ix (di_all (hu_of hr)) (dv 1) (de_str)) (da_nil)))) (da_nil)))))) (dss_nil))
    (dss_cons (ds_if (dt_cmp (do_eq hr.units) (dv 2) (de_str) (nomark _)) (dss_one (ds_ret (de_tup (da_cons (dv 2) (da_cons (dcall C_law_of hr (by decide) (da_cons (dv 0) (da_cons (dv 4) (da_nil)))) (da_cons (dcall C_law_some_pairs hr (by decide) (da_cons (dv 0) (da_cons (dv 1) (da_cons (de_int) (da_nil))))) (da_cons (dcall C_law_some_pairs hr (by decide) (da_cons (dv 0) (da_cons (dv 1) (da_cons (de_int) (da_nil))))) (da_cons (dcall C_law_some_kind hr (by decide) (da_cons (dv 0) (da_cons (dv 1) (da_nil)))) (da_nil))))))))) (dss_nil))
    (dss_cons (ds_if (dt_cmp (do_eq hr.units) (dv 2) (de_str) (nomark _)) (dss_cons (ds_set (i := 6) sc_law_some_line.nd rfl (Or.inl rfl) (dcall C_law_some_pairs hr (by decide) (da_cons (dv 0) (da_cons (dv 1) (da_cons (de_int) (da_nil))))))
    (dss_one (ds_ret (de_tup (da_cons (dv 2) (da_cons (dcall C_law_of hr (by decide) (da_cons (dv 0) (da_cons (dv 4) (da_nil)))) (da_cons (dcall C_law_some_pairs hr (by decide) (da_cons (dv 0) (da_cons (dv 1) (da_cons (de_int) (da_nil))))) (da_cons (dv 6) (da_cons (dcall C_law_some_kind hr (by decide) (da_cons (dv 0) (da_cons (dv 1) (da_nil)))) (da_cons (dcall C_law_row hr (by decide) (da_cons (dv 0) (da_cons (de_callB dc_len rfl T.n_len PySem.boot_len (da_cons (dv 6) (da_nil))) (da_nil)))) (da_nil))))))))))) (dss_nil))
    (dss_cons (ds_par (i := 7) (j := 8) rfl sc_law_some_line.nd rfl rfl (by decide) rfl rfl (da_cons (dcall C_law_some_term hr (by decide) (da_cons (dv 0) (da_cons (dv 4) (da_cons (dv 5) (da_cons (de_int) (da_nil)))))) (da_cons (dcall C_law_some_term hr (by decide) (da_cons (dv 0) (da_cons (dv 4) (da_cons (dv 5) (da_cons (de_int) (da_nil)))))) (da_nil))) (by rfl))
    (dss_cons (ds_if (dt_cmp (do_eq hr.units) (dv 2) (de_str) (nomark _)) (dss_one (ds_ret (de_tup (da_cons (dv 2) (da_cons (dv 7) (da_cons (dv 8) (da_nil))))))) (dss_nil))
    (dss_cons (ds_if (dt_cmp (do_eq hr.units) (dv 2) (de_str) (nomark _)) (dss_one (ds_ret (de_tup (da_cons (dv 2) (da_cons (dcall C_law_of hr (by decide) (da_cons (dv 0) (da_cons (dv 4) (da_nil)))) (da_cons (dv 7) (da_nil))))))) (dss_nil))
    (dss_cons (ds_set (i := 9) sc_law_some_line.nd rfl (Or.inl rfl) (dcall C_law_some_pairs hr (by decide) (da_cons (dv 0) (da_cons (dv 1) (da_cons (de_int) (da_nil))))))
    (dss_cons (ds_if (dt_cmp (do_eq hr.units) (dv 2) (de_str) (nomark _)) (dss_one (ds_ret (de_tup (da_cons (dv 2) (da_cons (dv 9) (da_cons (dv 7) (da_cons (dv 8) (da_cons (dcall C_law_some_tree hr (by decide) (da_cons (dv 0) (da_cons (dv 1) (da_nil)))) (da_nil))))))))) (dss_nil))
    (dss_one (ds_ret (de_ifExp (dt_cmp (do_eq hr.units) (dv 2) (de_str) (nomark _)) (de_tup (da_cons (dv 2) (da_cons (dv 9) (da_cons (dv 7) (da_cons (dv 8) (da_cons (dcall C_law_some_filling hr (by decide) (da_cons (dv 0) (da_cons (dv 1) (da_nil)))) (da_nil))))))) (de_tup (da_cons (dv 2) (da_cons (dv 9) (da_cons (dv 7) (da_cons (dv 8) (da_nil)))))))))))))))))))))
theorem ok_law_some_line (T : Tx K mg) (C_law_of : Cal P w K mg base 2 "_law_of" P_law_of S_law_of) (C_law_some_pairs : Cal P w K mg base 5 "_law_some_pairs" P_law_some_pairs S_law_some_pairs) (C_law_some_term : Cal P w K mg base 3 "_law_some_term" P_law_some_term S_law_some_term) (C_law_some_kind : Cal P w K mg base 4 "_law_some_kind" P_law_some_kind S_law_some_kind) (C_law_row : Cal P w K mg base 3 "_law_row" P_law_row S_law_row) (C_law_some_tree : Cal P w K mg base 5 "_law_some_tree" P_law_some_tree S_law_some_tree) (C_law_some_filling : Cal P w K mg base 4 "_law_some_filling" P_law_some_filling S_law_some_filling) (C_law_any : Cal P w K mg base 1 "_law_any" P_law_any S_law_any) {f : Addr} {fd : FuncData} (F : FunD K "_law_some_line" "_law_some_line" (defArgs s_law_some_line) (defBody s_law_some_line) (defScope s_law_some_line) [] [] f fd) (hm : mg "_law_some_line" = some (.ref f)) : Cal P w K mg base 6 "_law_some_line" P_law_some_line S_law_some_line :=
  ⟨f, fd, hm, F.kp, F.bindsN (fun _ _ _ _ _ _ us hl => match us, hl with | [_, _], _ => rfl), F.ok sc_law_some_line (fun vs H Q E h => keeps_len kp_law_some_line h) (fun cdv A outer s H vs Q E hr h => ⟨liftS K t_law_some_line, PSs.nox (d_law_some_line T C_law_of C_law_some_pairs C_law_some_term C_law_some_kind C_law_row C_law_some_tree C_law_some_filling C_law_any hr).pss, keeps_use (N := N_law_some_line) kp_law_some_line h⟩)⟩
abbrev s_law_some_world : Stmt := top 32
abbrev N_law_some_world : List Str := ["deal", "names", "letters"]
abbrev P_law_some_world : List Str := ["deal"]
theorem sc_law_some_world : FnScope N_law_some_world P_law_some_world (defScope s_law_some_world) := ⟨rfl, rfl, rfl, by decide +kernel, rfl, by decide +kernel, by decide +kernel⟩
theorem d_law_some_world (T : Tx K mg) (C_law_names_but : Cal P w K mg base 4 "_law_names_but" P_law_names_but S_law_names_but) (C_law_names : Cal P w K mg base 3 "_law_names" P_law_names S_law_names) (C_law_any : Cal P w K mg base 1 "_law_any" P_law_any S_law_any) {f : Addr} {cdv : Value} {A : Around} {outer : List PySem.Env} {s : Shared} {H : Hp} {E : XK} (hr : Room 4 (A.deeper (envOfC "_law_some_world" (defScope s_law_some_world) s.heap.objs.size f cdv))) :
    DSs (cxOf CX0 P w K mg base N_law_some_world "_law_some_world" (defScope s_law_some_world) f cdv A outer s H E).nox (defBody s_law_some_world) t_law_some_world := by
  exact dss_cons (ds_set (i := 1) sc_law_some_world.nd rfl (Or.inl rfl) (dcall C_law_names_but hr (by decide) (da_cons (dv 0) (da_cons (de_bin do_add (de_int) (dcall C_law_any hr (by decide) (da_cons (dv 0) (da_cons (de_int) (da_nil))))) (da_nil)))))
    (dss_cons (ds_set (i := 2) sc_law_some_world.nd rfl (Or.inl rfl) (dcall C_law_names hr (by decide) (da_cons (dv 0) (da_cons (de_int) (da_nil)))))
    (dss_cons (ds_if (dt_cmp (do_eq hr.units) (dcall C_law_any hr (by decide) (da_cons (dv 0) (da_cons (de_int) (da_nil)))) (de_int) (nomark _)) (dss_one (ds_asg (de_ifExp (dt_cmp (do_notin (hu_of hr)) (de_ix (di_all (hu_of hr)) (dv 1) (de_neg)) (dv 2) (by rfl)) (de_ix (di_all (hu_of hr)) (dv 1) (de_neg)) (de_ix (di_all (hu_of hr)) (dv 2) (de_int))) (dg_sub (dv 2) (de_int) (dset_all (hu_of hr))))) (dss_nil))
    (dss_one (ds_ret (de_disp (ks := ["sorts", "names", "letters", "rules left", "sorts left", "doers left"]) (dps_cons (de_sl (dv 1) (dp_none) (dp_some (de_int))) (dps_cons (de_sl (dv 1) (dp_some (de_int)) (dp_none)) (dps_cons (dv 2) (dps_cons (de_int) (dps_cons (de_int) (dps_cons (de_int) (dps_nil))))))) (by rfl) (by rfl) (by decide) (by decide) (by decide) (by decide))))))
theorem ok_law_some_world (T : Tx K mg) (C_law_names_but : Cal P w K mg base 4 "_law_names_but" P_law_names_but S_law_names_but) (C_law_names : Cal P w K mg base 3 "_law_names" P_law_names S_law_names) (C_law_any : Cal P w K mg base 1 "_law_any" P_law_any S_law_any) {f : Addr} {fd : FuncData} (F : FunD K "_law_some_world" "_law_some_world" (defArgs s_law_some_world) (defBody s_law_some_world) (defScope s_law_some_world) [] [] f fd) (hm : mg "_law_some_world" = some (.ref f)) : Cal P w K mg base 5 "_law_some_world" P_law_some_world S_law_some_world :=
  ⟨f, fd, hm, F.kp, F.bindsN (fun _ _ _ _ _ _ us hl => match us, hl with | [_], _ => rfl), F.ok sc_law_some_world (fun vs H Q E h => keeps_len kp_law_some_world h) (fun cdv A outer s H vs Q E hr h => ⟨liftS K t_law_some_world, PSs.nox (d_law_some_world T C_law_names_but C_law_names C_law_any hr).pss, keeps_use (N := N_law_some_world) kp_law_some_world h⟩)⟩
abbrev s_law : Stmt := top 33
abbrev N_law : List Str := ["script", "deal", "pairs", "turn", "world", "lines", "line"]
abbrev P_law : List Str := ["script"]
theorem sc_law : FnScope N_law P_law (defScope s_law) := ⟨rfl, rfl, rfl, by decide +kernel, rfl, by decide +kernel, by decide +kernel⟩
theorem d_law (T : Tx K mg) (C_law_all : Cal P w K mg base 9 "_law_all" P_law_all S_law_all) (C_law_deal : Cal P w K mg base 1 "_law_deal" P_law_deal S_law_deal) (C_law_some_world : Cal P w K mg base 5 "_law_some_world" P_law_some_world S_law_some_world) (C_law_some_line : Cal P w K mg base 6 "_law_some_line" P_law_some_line S_law_some_line) (C_touched_by : Cal P w K mg base 3 "touched_by" P_touched_by S_touched_by) (C_law_touched : Cal P w K mg base 2 "_law_touched" P_law_touched S_law_touched) (C_law_few : Cal P w K mg base 2 "_law_few" P_law_few S_law_few) (B_touched_by_lines : CalK P w K mg base 3 "touched_by" P_touched_by ["lines"] [0] S_touched_by) {f : Addr} {cdv : Value} {A : Around} {outer : List PySem.Env} {s : Shared} {H : Hp} {E : XK} (hr : Room 9 (A.deeper (envOfC "law" (defScope s_law) s.heap.objs.size f cdv))) :
    DSs (cxOf CX0 P w K mg base N_law "law" (defScope s_law) f cdv A outer s H E).nox (defBody s_law) t_law := by
  exact dss_cons (ds_asg (de_tup (da_cons (dcall C_law_deal hr (by decide) (da_cons (dv 0) (da_cons (de_int) (da_nil)))) (da_cons (de_lst (da_nil)) (da_nil)))) (dg_tup rfl (dgs_cons (dg_name (i := 1) sc_law.nd rfl (Or.inr rfl)) (dgs_cons (dg_name (i := 2) sc_law.nd rfl (Or.inl rfl)) (dgs_nil)))))
    (dss_cons (ds_for PassesOwn.never rfl (di_rng1 rfl T.n_range (de_int)) (dg_name (i := 3) sc_law.nd rfl (Or.inl rfl)) (dss_cons (ds_set (i := 4) sc_law.nd rfl (Or.inr rfl) (dcall C_law_some_world hr (by decide) (da_cons (dv 1) (da_nil))))
    (dss_cons (ds_set (i := 5) sc_law.nd rfl (Or.inl rfl) (de_callTy dc_tuple rfl T.n_tuple boot_tuple (da_cons (de_lc rfl sc_law.nd (di_rng1 rfl T.n_range (dcall C_law_few hr (by decide) (da_cons (dv 1) (da_cons (de_int) (da_nil))))) (blkOk_by (N := N_law) (sc := defScope s_law) (own := [("line", 6)]) (by decide +kernel)) (fun _ _ _ _ _ => dgc_name (i := 6) sc_law.nd rfl (by first | exact Or.inl rfl | exact Or.inr rfl) (by decide)) (fun _ _ _ _ _ => dts_nil) (fun _ _ _ _ _ => dcall C_law_some_line hr (by decide) (da_cons (dv 1) (da_cons (dv 4) (da_nil))))) (da_nil))))
    (dss_cons (ds_set (i := 2) sc_law.nd rfl (Or.inl rfl) (de_bin do_add (dv 2) (de_lst (da_cons (de_tup (da_cons (dcall C_touched_by hr (by decide) (da_cons (dv 5) (da_nil))) (da_cons (dcall C_law_touched hr (by decide) (da_cons (dv 5) (da_nil))) (da_nil)))) (da_cons (de_tup (da_cons (dcallK B_touched_by_lines hr (by decide) (dk_cons (de_revT (dv 5)) (dk_nil))) (da_cons (dcall C_law_touched hr (by decide) (da_cons (dv 5) (da_nil))) (da_nil)))) (da_nil))))))
    (dss_one (ds_for PassesOwn.never rfl (di_seq (dv 5)) (dg_name (i := 6) sc_law.nd rfl (Or.inl rfl)) (dss_one (ds_expr (de_m PySem.F.plainAttrs_list PySem.F.slot_list_append PySem.F.type_list_append ty_list dm_append (dv 2) (da_cons (de_tup (da_cons (dcall C_touched_by hr (by decide) (da_cons (de_tup (da_cons (dv 6) (da_nil))) (da_nil))) (da_cons (dcall C_law_touched hr (by decide) (da_cons (de_lst (da_cons (dv 6) (da_nil))) (da_nil))) (da_nil)))) (da_nil)))))))))))
    (dss_one (ds_ret (dcall C_law_all hr (by decide) (da_cons (dv 2) (da_nil))))))
theorem ok_law (T : Tx K mg) (C_law_all : Cal P w K mg base 9 "_law_all" P_law_all S_law_all) (C_law_deal : Cal P w K mg base 1 "_law_deal" P_law_deal S_law_deal) (C_law_some_world : Cal P w K mg base 5 "_law_some_world" P_law_some_world S_law_some_world) (C_law_some_line : Cal P w K mg base 6 "_law_some_line" P_law_some_line S_law_some_line) (C_touched_by : Cal P w K mg base 3 "touched_by" P_touched_by S_touched_by) (C_law_touched : Cal P w K mg base 2 "_law_touched" P_law_touched S_law_touched) (C_law_few : Cal P w K mg base 2 "_law_few" P_law_few S_law_few) (B_touched_by_lines : CalK P w K mg base 3 "touched_by" P_touched_by ["lines"] [0] S_touched_by) {f : Addr} {fd : FuncData} (F : FunD K "law" "law" (defArgs s_law) (defBody s_law) (defScope s_law) [] [] f fd) (hm : mg "law" = some (.ref f)) : Cal P w K mg base 10 "law" P_law S_law :=
  ⟨f, fd, hm, F.kp, F.bindsN (fun _ _ _ _ _ _ us hl => match us, hl with | [_], _ => rfl), F.ok sc_law (fun vs H Q E h => keeps_len kp_law h) (fun cdv A outer s H vs Q E hr h => ⟨liftS K t_law, PSs.nox (d_law T C_law_all C_law_deal C_law_some_world C_law_some_line C_touched_by C_law_touched C_law_few B_touched_by_lines hr).pss, keeps_use (N := N_law) kp_law h⟩)⟩
end
def dd_names_of : He.DefD := ⟨("names_of", none), "names_of", "names_of", defArgs s_names_of, defBody s_names_of, defScope s_names_of, [], []⟩
def dd_told_name : He.DefD := ⟨("told_name", none), "told_name", "told_name", defArgs s_told_name, defBody s_told_name, defScope s_told_name, [], []⟩
def dd_left_names : He.DefD := ⟨("left_names", none), "left_names", "left_names", defArgs s_left_names, defBody s_left_names, defScope s_left_names, [], []⟩
def dd_touched_by : He.DefD := ⟨("touched_by", none), "touched_by", "touched_by", defArgs s_touched_by, defBody s_touched_by, defScope s_touched_by, [], []⟩
def dd_law_deal : He.DefD := ⟨("_law_deal", none), "_law_deal", "_law_deal", defArgs s_law_deal, defBody s_law_deal, defScope s_law_deal, [], []⟩
def dd_law_any : He.DefD := ⟨("_law_any", none), "_law_any", "_law_any", defArgs s_law_any, defBody s_law_any, defScope s_law_any, [], []⟩
def dd_law_of : He.DefD := ⟨("_law_of", none), "_law_of", "_law_of", defArgs s_law_of, defBody s_law_of, defScope s_law_of, [], []⟩
def dd_law_mixed : He.DefD := ⟨("_law_mixed", none), "_law_mixed", "_law_mixed", defArgs s_law_mixed, defBody s_law_mixed, defScope s_law_mixed, [], []⟩
def dd_law_same : He.DefD := ⟨("_law_same", none), "_law_same", "_law_same", defArgs s_law_same, defBody s_law_same, defScope s_law_same, [], []⟩
def dd_law_all : He.DefD := ⟨("_law_all", none), "_law_all", "_law_all", defArgs s_law_all, defBody s_law_all, defScope s_law_all, [], []⟩
def dd_law_next_name : He.DefD := ⟨("_law_next_name", none), "_law_next_name", "_law_next_name", defArgs s_law_next_name, defBody s_law_next_name, defScope s_law_next_name, [], []⟩
def dd_law_names : He.DefD := ⟨("_law_names", none), "_law_names", "_law_names", defArgs s_law_names, defBody s_law_names, defScope s_law_names, [], []⟩
def dd_law_row : He.DefD := ⟨("_law_row", none), "_law_row", "_law_row", defArgs s_law_row, defBody s_law_row, defScope s_law_row, [], []⟩
def dd_law_few : He.DefD := ⟨("_law_few", none), "_law_few", "_law_few", defArgs s_law_few, defBody s_law_few, defScope s_law_few, [], []⟩
def dd_law_signs_named : He.DefD := ⟨("_law_signs_named", none), "_law_signs_named", "_law_signs_named", defArgs s_law_signs_named, defBody s_law_signs_named, defScope s_law_signs_named, [], []⟩
def dd_law_own_name : He.DefD := ⟨("_law_own_name", none), "_law_own_name", "_law_own_name", defArgs s_law_own_name, defBody s_law_own_name, defScope s_law_own_name, [], []⟩
def dd_law_lot_of : He.DefD := ⟨("_law_lot_of", none), "_law_lot_of", "_law_lot_of", defArgs s_law_lot_of, defBody s_law_lot_of, defScope s_law_lot_of, [], []⟩
def dd_law_touched : He.DefD := ⟨("_law_touched", none), "_law_touched", "_law_touched", defArgs s_law_touched, defBody s_law_touched, defScope s_law_touched, [], []⟩
def dd_law_names_but : He.DefD := ⟨("_law_names_but", none), "_law_names_but", "_law_names_but", defArgs s_law_names_but, defBody s_law_names_but, defScope s_law_names_but, [], []⟩
def dd_law_some_term : He.DefD := ⟨("_law_some_term", none), "_law_some_term", "_law_some_term", defArgs s_law_some_term, defBody s_law_some_term, defScope s_law_some_term, [], []⟩
def dd_law_some_kind : He.DefD := ⟨("_law_some_kind", none), "_law_some_kind", "_law_some_kind", defArgs s_law_some_kind, defBody s_law_some_kind, defScope s_law_some_kind, [], []⟩
def dd_law_some_pairs : He.DefD := ⟨("_law_some_pairs", none), "_law_some_pairs", "_law_some_pairs", defArgs s_law_some_pairs, defBody s_law_some_pairs, defScope s_law_some_pairs, [], []⟩
def dd_law_some_filling : He.DefD := ⟨("_law_some_filling", none), "_law_some_filling", "_law_some_filling", defArgs s_law_some_filling, defBody s_law_some_filling, defScope s_law_some_filling, [], []⟩
def dd_law_some_tree : He.DefD := ⟨("_law_some_tree", none), "_law_some_tree", "_law_some_tree", defArgs s_law_some_tree, defBody s_law_some_tree, defScope s_law_some_tree, [], []⟩
def dd_law_some_line : He.DefD := ⟨("_law_some_line", none), "_law_some_line", "_law_some_line", defArgs s_law_some_line, defBody s_law_some_line, defScope s_law_some_line, [], []⟩
def dd_law_some_world : He.DefD := ⟨("_law_some_world", none), "_law_some_world", "_law_some_world", defArgs s_law_some_world, defBody s_law_some_world, defScope s_law_some_world, [], []⟩
def dd_law : He.DefD := ⟨("law", none), "law", "law", defArgs s_law, defBody s_law, defScope s_law, [], []⟩
def fn : List He.DefD := [dd_names_of, dd_told_name, dd_left_names, dd_touched_by, dd_law_deal, dd_law_any, dd_law_of, dd_law_mixed, dd_law_same, dd_law_all, dd_law_next_name, dd_law_names, dd_law_row, dd_law_few, dd_law_signs_named, dd_law_own_name, dd_law_lot_of, dd_law_touched, dd_law_names_but, dd_law_some_term, dd_law_some_kind, dd_law_some_pairs, dd_law_some_filling, dd_law_some_tree, dd_law_some_line, dd_law_some_world, dd_law]
def fa : List He.Fa := [.glo "names_of", .glo "told_name", .glo "left_names", .glo "touched_by", .glo "_law_deal", .glo "_law_any", .glo "_law_of", .glo "_law_mixed", .glo "_law_same", .glo "_law_all", .glo "_law_next_name", .glo "_law_names", .glo "_law_row", .glo "_law_few", .glo "_law_signs_named", .glo "_law_own_name", .glo "_law_lot_of", .glo "_law_touched", .glo "_law_names_but", .glo "_law_some_term", .glo "_law_some_kind", .glo "_law_some_pairs", .glo "_law_some_filling", .glo "_law_some_tree", .glo "_law_some_line", .glo "_law_some_world", .glo "law", .free "abs", .free "bool", .free "int", .free "isinstance", .free "len", .free "list", .free "min", .free "range", .free "set", .free "sorted", .free "str", .free "tuple", .int "LETTER" (-1), .str "ALL" "all", .glo "TELLING"]
abbrev R : PySem.W.OpenRow := PySem.W.OpenLaw.row PySem.Challenge.rw_ownrules_k67_names_that_lines_touch
def exB (K : PySem.W.Frag) : Bool := He.tupB K "TELLING" [.str "sort", .str "open", .str "make", .str "do", .str "word"]
abbrev hk : PySem.W.Hook := He.hookX 4 fa fn [] [] exB
def ob (s : PySem.W.SharedT) : He.AlX := He.obsX 4 fa fn [] [] exB (HandSHeadRun.getT s)
theorem ob_eq (s : PySem.W.SharedT) : ob s = hk.obs s.abs := He.obsX_eq (HandSHeadRun.getT_eq s)
def lo_0 : List PySem.Str := ["names_of", "told_name", "left_names", "touched_by", "_law_deal", "_law_any", "_law_of", "_law_mixed", "_law_same", "_law_all", "_law_next_name", "_law_names", "_law_row", "_law_few", "_law_signs_named", "_law_own_name", "_law_lot_of", "_law_touched", "_law_names_but", "_law_some_term", "_law_some_kind", "_law_some_pairs", "_law_some_filling", "_law_some_tree", "_law_some_line", "_law_some_world", "LETTER", "TELLING", "ALL"]
abbrev loose : List PySem.Str := lo_0
theorem run (w : World) : HandSHeadRun.RunEq R (PySem.W.view R.prog [33]) hk ob 4000 loose w := by
  intro os
  kernel_rfl
theorem facts {P : Program} {w : World} {K : PySem.W.Frag} {h : Heap} {mg : Str → Option Value} {f : Addr} (X : K.In h) (G : h.Ns mainGlobals mg) (hfa : mg ("law" : Str) = some (.ref f)) (c : He.SaysD fa fn K) (ce : exB K = true) :
    ∃ fd : FuncData, (∀ (s : Shared) (v : Value), BindsTo s fd ⟨[v], []⟩ [("script", v)]) ∧ ∀ base : Heap, K.In base → base.Ns mainGlobals mg → FnOk P w K mg base CX0 10 f fd ["script"] (liftSp K S_law) := by
  have T : Tx K mg := ⟨He.free_ok X G (c.fact 27 (f := .free "abs") rfl),
    He.free_ok X G (c.fact 28 (f := .free "bool") rfl),
    He.free_ok X G (c.fact 29 (f := .free "int") rfl),
    He.free_ok X G (c.fact 30 (f := .free "isinstance") rfl),
    He.free_ok X G (c.fact 31 (f := .free "len") rfl),
    He.free_ok X G (c.fact 32 (f := .free "list") rfl),
    He.free_ok X G (c.fact 33 (f := .free "min") rfl),
    He.free_ok X G (c.fact 34 (f := .free "range") rfl),
    He.free_ok X G (c.fact 35 (f := .free "set") rfl),
    He.free_ok X G (c.fact 36 (f := .free "sorted") rfl),
    He.free_ok X G (c.fact 37 (f := .free "str") rfl),
    He.free_ok X G (c.fact 38 (f := .free "tuple") rfl),
    He.int_ok X G (c.fact 39 (f := .int "LETTER" (-1)) rfl),
    He.str_ok X G (c.fact 40 (f := .str "ALL" "all") rfl),
    ⟨_, He.glo_ok X G (c.fact 41 (f := .glo "TELLING") rfl), He.tupB_ok ce⟩⟩
  obtain ⟨fd_names_of, F_names_of⟩ := c.def_ 0 (d := dd_names_of) rfl
  obtain ⟨fd_told_name, F_told_name⟩ := c.def_ 1 (d := dd_told_name) rfl
  obtain ⟨fd_left_names, F_left_names⟩ := c.def_ 2 (d := dd_left_names) rfl
  obtain ⟨fd_touched_by, F_touched_by⟩ := c.def_ 3 (d := dd_touched_by) rfl
  obtain ⟨fd_law_deal, F_law_deal⟩ := c.def_ 4 (d := dd_law_deal) rfl
  obtain ⟨fd_law_any, F_law_any⟩ := c.def_ 5 (d := dd_law_any) rfl
  obtain ⟨fd_law_of, F_law_of⟩ := c.def_ 6 (d := dd_law_of) rfl
  obtain ⟨fd_law_mixed, F_law_mixed⟩ := c.def_ 7 (d := dd_law_mixed) rfl
  obtain ⟨fd_law_same, F_law_same⟩ := c.def_ 8 (d := dd_law_same) rfl
  obtain ⟨fd_law_all, F_law_all⟩ := c.def_ 9 (d := dd_law_all) rfl
  obtain ⟨fd_law_next_name, F_law_next_name⟩ := c.def_ 10 (d := dd_law_next_name) rfl
  obtain ⟨fd_law_names, F_law_names⟩ := c.def_ 11 (d := dd_law_names) rfl
  obtain ⟨fd_law_row, F_law_row⟩ := c.def_ 12 (d := dd_law_row) rfl
  obtain ⟨fd_law_few, F_law_few⟩ := c.def_ 13 (d := dd_law_few) rfl
  obtain ⟨fd_law_signs_named, F_law_signs_named⟩ := c.def_ 14 (d := dd_law_signs_named) rfl
  obtain ⟨fd_law_own_name, F_law_own_name⟩ := c.def_ 15 (d := dd_law_own_name) rfl
  obtain ⟨fd_law_lot_of, F_law_lot_of⟩ := c.def_ 16 (d := dd_law_lot_of) rfl
  obtain ⟨fd_law_touched, F_law_touched⟩ := c.def_ 17 (d := dd_law_touched) rfl
  obtain ⟨fd_law_names_but, F_law_names_but⟩ := c.def_ 18 (d := dd_law_names_but) rfl
  obtain ⟨fd_law_some_term, F_law_some_term⟩ := c.def_ 19 (d := dd_law_some_term) rfl
  obtain ⟨fd_law_some_kind, F_law_some_kind⟩ := c.def_ 20 (d := dd_law_some_kind) rfl
  obtain ⟨fd_law_some_pairs, F_law_some_pairs⟩ := c.def_ 21 (d := dd_law_some_pairs) rfl
  obtain ⟨fd_law_some_filling, F_law_some_filling⟩ := c.def_ 22 (d := dd_law_some_filling) rfl
  obtain ⟨fd_law_some_tree, F_law_some_tree⟩ := c.def_ 23 (d := dd_law_some_tree) rfl
  obtain ⟨fd_law_some_line, F_law_some_line⟩ := c.def_ 24 (d := dd_law_some_line) rfl
  obtain ⟨fd_law_some_world, F_law_some_world⟩ := c.def_ 25 (d := dd_law_some_world) rfl
  obtain ⟨fd_law, F_law⟩ := c.def_ 26 (d := dd_law) rfl
  have e := hfa.symm.trans (He.glo_ok X G (c.fact 26 (f := .glo "law") rfl))
  cases e
  have b := FunD.bindsA (ps := ["script"]) F_law fun _ _ _ _ _ _ us hl => match us, hl with | [_], _ => rfl
  refine ⟨fd_law, fun s v => b s [v] rfl, fun base _ _ => ?_⟩
  have C_names_of := ok_names_of (P := P) (w := w) (base := base) T  F_names_of (He.glo_ok X G (c.fact 0 (f := .glo "names_of") rfl))
  have C_told_name := ok_told_name (P := P) (w := w) (base := base) T  F_told_name (He.glo_ok X G (c.fact 1 (f := .glo "told_name") rfl))
  have C_law_deal := ok_law_deal (P := P) (w := w) (base := base) T  F_law_deal (He.glo_ok X G (c.fact 4 (f := .glo "_law_deal") rfl))
  have C_law_any := ok_law_any (P := P) (w := w) (base := base) T  F_law_any (He.glo_ok X G (c.fact 5 (f := .glo "_law_any") rfl))
  have C_law_next_name := ok_law_next_name (P := P) (w := w) (base := base) T  F_law_next_name (He.glo_ok X G (c.fact 10 (f := .glo "_law_next_name") rfl))
  have C_law_signs_named := ok_law_signs_named (P := P) (w := w) (base := base) T  F_law_signs_named (He.glo_ok X G (c.fact 14 (f := .glo "_law_signs_named") rfl))
  have C_law_own_name := ok_law_own_name (P := P) (w := w) (base := base) T  F_law_own_name (He.glo_ok X G (c.fact 15 (f := .glo "_law_own_name") rfl))
  have C_law_lot_of := ok_law_lot_of (P := P) (w := w) (base := base) T  F_law_lot_of (He.glo_ok X G (c.fact 16 (f := .glo "_law_lot_of") rfl))
  have C_left_names := ok_left_names (P := P) (w := w) (base := base) T C_names_of F_left_names (He.glo_ok X G (c.fact 2 (f := .glo "left_names") rfl))
  have C_law_of := ok_law_of (P := P) (w := w) (base := base) T C_law_any F_law_of (He.glo_ok X G (c.fact 6 (f := .glo "_law_of") rfl))
  have C_law_mixed := ok_law_mixed (P := P) (w := w) (base := base) T C_law_any F_law_mixed (He.glo_ok X G (c.fact 7 (f := .glo "_law_mixed") rfl))
  have C_law_few := ok_law_few (P := P) (w := w) (base := base) T C_law_any F_law_few (He.glo_ok X G (c.fact 13 (f := .glo "_law_few") rfl))
  have C_law_touched := ok_law_touched (P := P) (w := w) (base := base) T C_law_lot_of C_law_own_name C_law_signs_named F_law_touched (He.glo_ok X G (c.fact 17 (f := .glo "_law_touched") rfl))
  have C_touched_by := ok_touched_by (P := P) (w := w) (base := base) T C_left_names C_told_name F_touched_by (He.glo_ok X G (c.fact 3 (f := .glo "touched_by") rfl))
  have B_touched_by_lines := okK_touched_by_lines (P := P) (w := w) (base := base) T C_left_names C_told_name F_touched_by (He.glo_ok X G (c.fact 3 (f := .glo "touched_by") rfl))
  have C_law_names := ok_law_names (P := P) (w := w) (base := base) T C_law_any C_law_of C_law_next_name F_law_names (He.glo_ok X G (c.fact 11 (f := .glo "_law_names") rfl))
  have C_law_row := ok_law_row (P := P) (w := w) (base := base) T C_law_mixed C_law_any F_law_row (He.glo_ok X G (c.fact 12 (f := .glo "_law_row") rfl))
  have C_law_some_term := ok_law_some_term (P := P) (w := w) (base := base) T C_law_of C_law_any F_law_some_term (He.glo_ok X G (c.fact 19 (f := .glo "_law_some_term") rfl))
  have C_law_names_but := ok_law_names_but (P := P) (w := w) (base := base) T C_law_names F_law_names_but (He.glo_ok X G (c.fact 18 (f := .glo "_law_names_but") rfl))
  have C_law_some_kind := ok_law_some_kind (P := P) (w := w) (base := base) T C_law_some_term C_law_of F_law_some_kind (He.glo_ok X G (c.fact 20 (f := .glo "_law_some_kind") rfl))
  have C_law_some_filling := ok_law_some_filling (P := P) (w := w) (base := base) T C_law_mixed C_law_any C_law_some_term F_law_some_filling (He.glo_ok X G (c.fact 22 (f := .glo "_law_some_filling") rfl))
  have C_law_some_pairs := ok_law_some_pairs (P := P) (w := w) (base := base) T C_law_some_kind C_law_mixed C_law_any F_law_some_pairs (He.glo_ok X G (c.fact 21 (f := .glo "_law_some_pairs") rfl))
  have C_law_some_tree := ok_law_some_tree (P := P) (w := w) (base := base) T C_law_any C_law_of C_law_some_filling C_law_mixed F_law_some_tree (He.glo_ok X G (c.fact 23 (f := .glo "_law_some_tree") rfl))
  have C_law_some_world := ok_law_some_world (P := P) (w := w) (base := base) T C_law_names_but C_law_names C_law_any F_law_some_world (He.glo_ok X G (c.fact 25 (f := .glo "_law_some_world") rfl))
  have C_law_some_line := ok_law_some_line (P := P) (w := w) (base := base) T C_law_of C_law_some_pairs C_law_some_term C_law_some_kind C_law_row C_law_some_tree C_law_some_filling C_law_any F_law_some_line (He.glo_ok X G (c.fact 24 (f := .glo "_law_some_line") rfl))
  have C_law_same := okF_law_same (P := P) (w := w) (base := base) T F_law_same (He.glo_ok X G (c.fact 8 (f := .glo "_law_same") rfl))
  replace C_law_same := ok_law_same_0 (P := P) (w := w) (base := base) T C_law_same F_law_same (He.glo_ok X G (c.fact 8 (f := .glo "_law_same") rfl))
  replace C_law_same := ok_law_same_1 (P := P) (w := w) (base := base) T C_law_same F_law_same (He.glo_ok X G (c.fact 8 (f := .glo "_law_same") rfl))
  replace C_law_same := ok_law_same_2 (P := P) (w := w) (base := base) T C_law_same F_law_same (He.glo_ok X G (c.fact 8 (f := .glo "_law_same") rfl))
  replace C_law_same := ok_law_same_3 (P := P) (w := w) (base := base) T C_law_same F_law_same (He.glo_ok X G (c.fact 8 (f := .glo "_law_same") rfl))
  replace C_law_same := ok_law_same_4 (P := P) (w := w) (base := base) T C_law_same F_law_same (He.glo_ok X G (c.fact 8 (f := .glo "_law_same") rfl))
  replace C_law_same := ok_law_same_5 (P := P) (w := w) (base := base) T C_law_same F_law_same (He.glo_ok X G (c.fact 8 (f := .glo "_law_same") rfl))
  replace C_law_same := ok_law_same_6 (P := P) (w := w) (base := base) T C_law_same F_law_same (He.glo_ok X G (c.fact 8 (f := .glo "_law_same") rfl))
  have C_law_all := ok_law_all (P := P) (w := w) (base := base) T C_law_same F_law_all (He.glo_ok X G (c.fact 9 (f := .glo "_law_all") rfl))
  exact F_law.ok sc_law (fun vs H Q E h => keeps_len kp_law h) (fun cdv A outer s H vs Q E hr h => ⟨liftS K t_law, PSs.nox (d_law T C_law_all C_law_deal C_law_some_world C_law_some_line C_touched_by C_law_touched C_law_few B_touched_by_lines hr).pss, keeps_use (N := N_law) kp_law h⟩)
end TB
end L2.DL
open PySem PySem.W PySem.Calls PyProof.Rows
theorem PySem.Challenge.cw_ownrules_k67_names_that_lines_touch_holds : PySem.Challenge.rw_ownrules_k67_names_that_lines_touch.Holds := by
  w_on; o_law
  refine HandSHeadRun.head_any (r := OpenLaw.row PySem.Challenge.rw_ownrules_k67_names_that_lines_touch) (q := view (OpenLaw.row PySem.Challenge.rw_ownrules_k67_names_that_lines_touch).prog [33]) (H := L2.DL.TB.hk) (ob := L2.DL.TB.ob) (M := 4000) (loose := L2.DL.TB.loose) (d := HandSHeadRun.topDef (OpenLaw.row PySem.Challenge.rw_ownrules_k67_names_that_lines_touch).prog 33) (kwd := []) L2.DL.TB.ob_eq
    (by kernel_rfl) (fun s => by kernel_rfl) L2.DL.TB.run (by kernel_rfl) (by kernel_rfl) (by kernel_rfl) (by rfl) (by first | assumption | decide +kernel) (by decide +kernel) ⟨rfl, rfl, rfl, rfl, rfl, by decide +kernel⟩ ?hw ?hc
  case hw => w_witness2
  case hc =>
    refine L2.walk_ofE (l := PySem.Challenge.rw_ownrules_k67_names_that_lines_touch) (n := 63) (k := 10) (x := "script") (CX := L2.CX0) rfl (by decide) (by kernel_rfl) ⟨rfl, by decide, by decide⟩ ?F (fun _ _ _ _ z => z)
    intro w mg fa h Y G hmg0
    obtain ⟨K, KX, c⟩ := Y
    have hmg : mg ("law" : PySem.Str) = some (.ref fa) := by
      have e : (HandSHeadRun.topDef (OpenLaw.row PySem.Challenge.rw_ownrules_k67_names_that_lines_touch).prog 33).name = ("law" : PySem.Str) := by kernel_rfl
      rw [← e]
      exact hmg0
    obtain ⟨fd, hb, hF⟩ := L2.DL.TB.facts (P := (PySem.Challenge.rw_ownrules_k67_names_that_lines_touch).prog) (w := w) KX G hmg c.t.d c.more
    exact ⟨K, fd, L2.DL.liftSp K L2.DL.TB.S_law, KX, hb, fun H a ns hl _ hS => L2.DL.law_in hl hS L2.DL.TB.law_spec, hF⟩
