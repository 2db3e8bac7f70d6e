import PyProof.Rows.All
import Wide.All
import OpenK.AllK
import Wide.FinOn
import HandS.ForMost
import HandS.Exc
import HandS.TryOnly
import HandS.ExcOwn
import HandS.WordsExc
import HandS.Defaults
import HandS.Walk
import PyProof.P3Eq
import PyProof.NeData
import HandS.Text
import HandS.TupAny
import HandS.FStr
import PyProof.StrBlock2
import HandS.CallSlots
import HandS.Strs
import HandS.More
import HandS.IsInst
import HandS.HeadHook2
import HandS.HeadHook3
import HandS.HeadHook4
import HandS.HeadEnd
import PyProof.StrLawsTight
import PyProof.StrLawsFirst
import PyProof.StrLawsChain
import PySem.Challenge.RW_fewestheld_k59_words_of_a_session
set_option Elab.async false
set_option linter.all false
set_option maxRecDepth 100000
set_option maxHeartbeats 0
/-! P1: data as a whole, results, frames: the words in which a def's value is a plain Lean function. -/
namespace Pf
open PySem PySem.Spec L2
open PyProof.Rows hiding St

/-- data as a whole; own p: the mutable object at p, by its place alone -/
inductive D where
  | non | bl (b : Bool) | int (i : Int) | str (s : Str)
  | lst (xs : List D) | tup (xs : List D)
  | dK (ks : List Key) (vs : List D) | dT (ks : List (List Key)) (vs : List D)
  | obj (c : Str) (ns : List Str) (vs : List D)
  | own (p : Addr)

/-- an error: its class by name, its fields -/
structure Err where
  c : Str
  ns : List Str
  vs : List D

/-- a result: out of what is shown here, a value, an error -/
inductive M (α : Type) where
  | stuck | ok (x : α) | raise (e : Err)
namespace M
def bind {α β : Type} (m : M α) (k : α → M β) : M β := match m with
  | stuck => stuck
  | ok x => k x
  | raise e => raise e
@[simp] theorem bind_ok {α β : Type} (x : α) (k : α → M β) : (ok x).bind k = k x := rfl
@[simp] theorem bind_stuck {α β : Type} (k : α → M β) : (stuck : M α).bind k = stuck := rfl
@[simp] theorem bind_raise {α β : Type} (e : Err) (k : α → M β) : (raise e : M α).bind k = raise e := rfl
theorem bind_assoc {α β γ : Type} (m : M α) (k : α → M β) (l : β → M γ) : (m.bind k).bind l = m.bind fun x => (k x).bind l := by
  cases m <;> rfl
def map {α β : Type} (f : α → β) (m : M α) : M β := m.bind fun x => ok (f x)
/-- an error is out of what is shown -/
def nr {α : Type} : M α → M α
  | ok x => ok x
  | _ => stuck
@[simp] theorem nr_ok {α : Type} (x : α) : (ok x).nr = ok x := rfl
/-- the value of a try: what an Option holds -/
def some! {α : Type} : Option α → M α
  | some x => ok x
  | none => stuck
@[simp] theorem some!_some {α : Type} (x : α) : some! (some x) = ok x := rfl
/-- x, where c holds -/
def need {α : Type} (c : Bool) (m : M α) : M α := if c then m else stuck
theorem need_true {α : Type} {c : Bool} (m : M α) (h : c = true) : need c m = m := by unfold need; rw [if_pos h]
end M

/-! ### heaps -/
def Sub (H H' : Hp) : Prop := ∀ a o, H a = some o → H' a = some o
theorem Sub.refl (H : Hp) : Sub H H := fun _ _ h => h
theorem Sub.trans {H H1 H2 : Hp} (a : Sub H H1) (b : Sub H1 H2) : Sub H H2 := fun x o h => b x o (a x o h)
theorem Sub.free {H H' : Hp} (s : Sub H H') {a : Addr} (h : H' a = none) : H a = none := by
  cases e : H a with
  | none => rfl
  | some o => rw [s a o e] at h; cases h
theorem Sub.upd {H : Hp} {p : Addr} {o : HO} (h : H p = none) : Sub H (upd H p o) := fun a u e => by
  rw [upd_ne (ne_of_none e h)]; exact e
theorem Sub.rd {H H' : Hp} (s : Sub H H') {a : Addr} {u : HO} (h : Rd H a u) : Rd H' a u := by
  rcases h with h | ⟨o, h⟩
  · exact .inl (s a _ h)
  · exact .inr ⟨o, s a _ h⟩
theorem Sub.sl {K : PySem.W.Frag} {H H' : Hp} {a : Addr} {xs : List V} (s : Sub H H') (h : SqL K H a xs) : SqL K H' a xs := by
  rcases h with h | h
  · exact .inl (s.rd h)
  · exact .inr h
theorem Sub.st {K : PySem.W.Frag} {H H' : Hp} {a : Addr} {xs : List V} (s : Sub H H') (h : SqT K H a xs) : SqT K H' a xs := by
  rcases h with h | h
  · exact .inl (s.rd h)
  · exact .inr h

/-- G: what is frozen, H: all. (G', H') is a later one: nothing is lost, and what is newly frozen is new -/
structure Ext (G H G' H' : Hp) : Prop where
  g : Sub G G'
  gh : Sub G' H'
  h : Sub H H'
  fr : ∀ a, H a ≠ none → G' a = G a
theorem Ext.refl {G H : Hp} (s : Sub G H) : Ext G H G H := ⟨Sub.refl G, s, Sub.refl H, fun _ _ => rfl⟩
theorem Ext.trans {G H G1 H1 G2 H2 : Hp} (a : Ext G H G1 H1) (b : Ext G1 H1 G2 H2) : Ext G H G2 H2 :=
  ⟨a.g.trans b.g, b.gh, a.h.trans b.h, fun p hp => by
    rw [b.fr p (fun e => hp (a.h.free e)), a.fr p hp]⟩
theorem Ext.new {G H : Hp} {p : Addr} {o : HO} (s : Sub G H) (h : H p = none) : Ext G H (upd G p o) (upd H p o) where
  g := Sub.upd (s.free h)
  gh := fun a u e => by
    by_cases hp : a = p
    · subst hp; rw [upd_same] at e; rw [upd_same]; exact e
    · rw [upd_ne hp] at e; rw [upd_ne hp]; exact s a u e
  h := Sub.upd h
  fr := fun a ha => upd_ne fun e => ha (by rw [e]; exact h)
/-- a new object that is not frozen -/
theorem Ext.newM {G H : Hp} {p : Addr} {o : HO} (s : Sub G H) (h : H p = none) : Ext G H G (upd H p o) where
  g := Sub.refl G
  gh := s.trans (Sub.upd h)
  h := Sub.upd h
  fr := fun _ _ => rfl

/-! ### what represents what -/
mutual
/-- the value v is the data d, in the frozen heap G; cA: where a class stands -/
inductive Rp (K : PySem.W.Frag) (cA : Str → Addr) (G : Hp) : V → D → Prop
  | non : Rp K cA G .non .non
  | bl (b : Bool) : Rp K cA G (.bl b) (.bl b)
  | int (i : Int) : Rp K cA G (.int i) (.int i)
  | str (s : Str) : Rp K cA G (.str s) (.str s)
  | lst {a : Addr} {vs : List V} {ds : List D} : SqL K G a vs → RpAll K cA G vs ds → Rp K cA G (.ref a) (.lst ds)
  | tup {a : Addr} {vs : List V} {ds : List D} : SqT K G a vs → RpAll K cA G vs ds → Rp K cA G (.ref a) (.tup ds)
  | dK {a : Addr} {kvs : List (Key × V)} {ds : List D} : Rd G a (.dK kvs) → RpAll K cA G (kvs.map (·.2)) ds → Rp K cA G (.ref a) (.dK (kvs.map (·.1)) ds)
  | dT {a : Addr} {kvs : List (List Key × V)} {ds : List D} : Rd G a (.dT kvs) → RpAll K cA G (kvs.map (·.2)) ds → Rp K cA G (.ref a) (.dT (kvs.map (·.1)) ds)
  | obj {a dx : Addr} {c : Str} {fs : List (Str × V)} {ds : List D} : G a = some (.ins (cA c) dx fs) → RpAll K cA G (fs.map (·.2)) ds → Rp K cA G (.ref a) (.obj c (fs.map (·.1)) ds)
  | own (p : Addr) : Rp K cA G (.ref p) (.own p)
inductive RpAll (K : PySem.W.Frag) (cA : Str → Addr) (G : Hp) : List V → List D → Prop
  | nil : RpAll K cA G [] []
  | cons {v : V} {vs : List V} {d : D} {ds : List D} : Rp K cA G v d → RpAll K cA G vs ds → RpAll K cA G (v :: vs) (d :: ds)
end
section
variable {K : PySem.W.Frag} {cA : Str → Addr} {G G' : Hp}
mutual
theorem Rp.mono (s : Sub G G') : ∀ {v : V} {d : D}, Rp K cA G v d → Rp K cA G' v d
  | _, _, .non => .non
  | _, _, .bl b => .bl b
  | _, _, .int i => .int i
  | _, _, .str z => .str z
  | _, _, .lst h r => .lst (s.sl h) (RpAll.mono s r)
  | _, _, .tup h r => .tup (s.st h) (RpAll.mono s r)
  | _, _, .dK h r => .dK (s.rd h) (RpAll.mono s r)
  | _, _, .dT h r => .dT (s.rd h) (RpAll.mono s r)
  | _, _, .obj h r => .obj (s _ _ h) (RpAll.mono s r)
  | _, _, .own p => .own p
theorem RpAll.mono (s : Sub G G') : ∀ {vs : List V} {ds : List D}, RpAll K cA G vs ds → RpAll K cA G' vs ds
  | _, _, .nil => .nil
  | _, _, .cons r t => .cons (Rp.mono s r) (RpAll.mono s t)
end
theorem RpAll.length : ∀ {vs : List V} {ds : List D}, RpAll K cA G vs ds → vs.length = ds.length
  | _, _, .nil => rfl
  | _, _, .cons _ t => congrArg (· + 1) (RpAll.length t)
theorem RpAll.get : ∀ {vs : List V} {ds : List D} {i : Nat} {d : D}, RpAll K cA G vs ds → ds[i]? = some d → ∃ v, vs[i]? = some v ∧ Rp K cA G v d
  | _, _, i, _, .nil, e => by simp at e
  | _, _, 0, _, .cons r _, e => by simp at e; subst e; exact ⟨_, rfl, r⟩
  | _, _, i + 1, _, .cons _ t, e => by
    obtain ⟨v, h1, h2⟩ := RpAll.get (i := i) t (by simpa using e)
    exact ⟨v, by simpa using h1, h2⟩
theorem RpAll.append : ∀ {vs us : List V} {ds es : List D}, RpAll K cA G vs ds → RpAll K cA G us es → RpAll K cA G (vs ++ us) (ds ++ es)
  | _, _, _, _, .nil, r => r
  | _, _, _, _, .cons a t, r => .cons a (RpAll.append t r)
theorem RpAll.snoc {vs : List V} {ds : List D} {v : V} {d : D} (r : RpAll K cA G vs ds) (h : Rp K cA G v d) : RpAll K cA G (vs ++ [v]) (ds ++ [d]) := r.append (.cons h .nil)
theorem RpAll.take : ∀ {vs : List V} {ds : List D} (n : Nat), RpAll K cA G vs ds → RpAll K cA G (vs.take n) (ds.take n)
  | _, _, 0, _ => .nil
  | _, _, _ + 1, .nil => .nil
  | _, _, n + 1, .cons r t => .cons r (RpAll.take n t)
theorem RpAll.drop : ∀ {vs : List V} {ds : List D} (n : Nat), RpAll K cA G vs ds → RpAll K cA G (vs.drop n) (ds.drop n)
  | _, _, 0, r => r
  | _, _, _ + 1, .nil => .nil
  | _, _, n + 1, .cons _ t => RpAll.drop n t
theorem RpAll.set : ∀ {vs : List V} {ds : List D} {v : V} {d : D} (i : Nat), RpAll K cA G vs ds → Rp K cA G v d → RpAll K cA G (vs.set i v) (ds.set i d)
  | _, _, _, _, _, .nil, _ => .nil
  | _, _, _, _, 0, .cons _ t, h => .cons h t
  | _, _, _, _, i + 1, .cons r t, h => .cons r (RpAll.set i t h)
theorem RpAll.reverse : ∀ {vs : List V} {ds : List D}, RpAll K cA G vs ds → RpAll K cA G vs.reverse ds.reverse
  | _, _, .nil => .nil
  | _, _, .cons r t => by
    rw [List.reverse_cons, List.reverse_cons]
    exact (RpAll.reverse t).snoc r
theorem RpAll.eraseIdx : ∀ {vs : List V} {ds : List D} (i : Nat), RpAll K cA G vs ds → RpAll K cA G (vs.eraseIdx i) (ds.eraseIdx i)
  | _, _, _, .nil => .nil
  | _, _, 0, .cons _ t => t
  | _, _, i + 1, .cons r t => .cons r (RpAll.eraseIdx i t)
theorem RpAll.dropLast : ∀ {vs : List V} {ds : List D}, RpAll K cA G vs ds → RpAll K cA G vs.dropLast ds.dropLast
  | _, _, .nil => .nil
  | _, _, .cons r .nil => .nil
  | _, _, .cons r (.cons q t) => .cons r (RpAll.dropLast (.cons q t))
end

/-! ### encodings -/
class Enc (α : Type) where
  toD : α → D
def enc {α : Type} [Enc α] (x : α) : D := Enc.toD x
instance : Enc D := ⟨fun d => d⟩
instance : Enc Int := ⟨.int⟩
instance : Enc Bool := ⟨.bl⟩
instance : Enc Str := ⟨.str⟩
instance : Enc Unit := ⟨fun _ => .non⟩
def encL {α : Type} [Enc α] (xs : List α) : List D := xs.map enc
instance {α : Type} [Enc α] : Enc (List α) := ⟨fun xs => .lst (encL xs)⟩
/-- a tuple of any length -/
structure Tup (α : Type) where
  l : List α
  deriving DecidableEq, Inhabited
instance {α : Type} [Enc α] : Enc (Tup α) := ⟨fun t => .tup (encL t.l)⟩
instance {α : Type} [Enc α] : Enc (Option α) := ⟨fun o => match o with | none => .non | some x => enc x⟩
/-- a pair is a tuple of two; three, four, five -/
instance {α β : Type} [Enc α] [Enc β] : Enc (α × β) := ⟨fun p => .tup [enc p.1, enc p.2]⟩
structure T3 (α β γ : Type) where
  a : α
  b : β
  c : γ
  deriving DecidableEq, Inhabited
instance {α β γ : Type} [Enc α] [Enc β] [Enc γ] : Enc (T3 α β γ) := ⟨fun p => .tup [enc p.a, enc p.b, enc p.c]⟩
structure T4 (α β γ δ : Type) where
  a : α
  b : β
  c : γ
  d : δ
  deriving DecidableEq, Inhabited
instance {α β γ δ : Type} [Enc α] [Enc β] [Enc γ] [Enc δ] : Enc (T4 α β γ δ) := ⟨fun p => .tup [enc p.a, enc p.b, enc p.c, enc p.d]⟩
structure T5 (α β γ δ ε : Type) where
  a : α
  b : β
  c : γ
  d : δ
  e : ε
  deriving DecidableEq, Inhabited
instance {α β γ δ ε : Type} [Enc α] [Enc β] [Enc γ] [Enc δ] [Enc ε] : Enc (T5 α β γ δ ε) := ⟨fun p => .tup [enc p.a, enc p.b, enc p.c, enc p.d, enc p.e]⟩
/-- keys of dicts: ints, texts; tuples of these -/
class KEnc (κ : Type) where
  key : κ → Key
instance : KEnc Int := ⟨.inl⟩
instance : KEnc Str := ⟨.inr⟩

/-! ### cells, frames, states -/
/-- a mutable object, by what it holds -/
inductive Cell where
  | lst (ds : List D) | dK (ks : List Key) (vs : List D) | dT (ks : List (List Key)) (vs : List D) | ins (c : Str) (ns : List Str) (vs : List D)
abbrev Led : Type := List (Addr × Cell)
abbrev Fm : Type := List (Option D)
def CellOk (K : PySem.W.Frag) (cA : Str → Addr) (G H : Hp) (p : Addr) : Cell → Prop
  | .lst ds => ∃ vs, H p = some (.lst vs) ∧ RpAll K cA G vs ds
  | .dK ks ds => ∃ kvs, H p = some (.dK kvs) ∧ kvs.map (·.1) = ks ∧ RpAll K cA G (kvs.map (·.2)) ds
  | .dT ks ds => ∃ kvs, H p = some (.dT kvs) ∧ kvs.map (·.1) = ks ∧ RpAll K cA G (kvs.map (·.2)) ds
  | .ins c ns ds => ∃ dx fs, H p = some (.ins (cA c) dx fs) ∧ fs.map (·.1) = ns ∧ RpAll K cA G (fs.map (·.2)) ds
theorem CellOk.mono {K : PySem.W.Frag} {cA : Str → Addr} {G H G' H' : Hp} {p : Addr} (s : Sub G G') (e : H' p = H p) : ∀ {c : Cell}, CellOk K cA G H p c → CellOk K cA G' H' p c
  | .lst _, ⟨vs, h, r⟩ => ⟨vs, e.trans h, r.mono s⟩
  | .dK _ _, ⟨vs, h, k, r⟩ => ⟨vs, e.trans h, k, r.mono s⟩
  | .dT _ _, ⟨vs, h, k, r⟩ => ⟨vs, e.trans h, k, r.mono s⟩
  | .ins _ _ _, ⟨dx, fs, h, k, r⟩ => ⟨dx, fs, e.trans h, k, r.mono s⟩
theorem CellOk.some {K : PySem.W.Frag} {cA : Str → Addr} {G H : Hp} {p : Addr} : ∀ {c : Cell}, CellOk K cA G H p c → ∃ o, H p = some o
  | .lst _, ⟨_, h, _⟩ => ⟨_, h⟩
  | .dK _ _, ⟨_, h, _⟩ => ⟨_, h⟩
  | .dT _ _, ⟨_, h, _⟩ => ⟨_, h⟩
  | .ins _ _ _, ⟨_, _, h, _⟩ => ⟨_, h⟩

/-- the state of a frame: B what the caller has (it stays), G0 what was frozen at the start; G frozen now, H all; the slots σ; the mutable objects -/
structure Stt (K : PySem.W.Frag) (cA : Str → Addr) (B G0 G H : Hp) (σ : St) (Γ : Fm) (L : Led) : Prop where
  gh : Sub G H
  bh : Sub B H
  g0 : Sub G0 G
  bg : ∀ a, B a ≠ none → G a = G0 a
  len : σ.length = Γ.length
  slot : ∀ (i : Nat) (d : D), Γ[i]? = some (some d) → ∃ v, σ[i]? = some (some v) ∧ Rp K cA G v d
  nd : (L.map (·.1)).Nodup
  cell : ∀ p c, (p, c) ∈ L → G p = none ∧ B p = none ∧ CellOk K cA G H p c
section
variable {K : PySem.W.Frag} {cA : Str → Addr} {B G0 G H G' H' : Hp} {σ : St} {Γ : Fm} {L : Led}
theorem Stt.exts (s : Stt K cA B G0 G H σ Γ L) (e : Ext G H G' H') : Stt K cA B G0 G' H' σ Γ L where
  gh := e.gh
  bh := s.bh.trans e.h
  g0 := s.g0.trans e.g
  bg := fun a h => by
    have : H a ≠ none := fun z => h (s.bh.free z)
    rw [e.fr a this, s.bg a h]
  len := s.len
  slot := fun i d h => let ⟨v, a, r⟩ := s.slot i d h; ⟨v, a, r.mono e.g⟩
  nd := s.nd
  cell := fun p c h => by
    obtain ⟨a, b, q⟩ := s.cell p c h
    obtain ⟨o, ho⟩ := q.some
    refine ⟨?_, b, q.mono e.g ((e.h p o ho).trans ho.symm)⟩
    rw [e.fr p (by rw [ho]; exact fun z => nomatch z)]; exact a
theorem Stt.set (s : Stt K cA B G0 G H σ Γ L) {i : Nat} {v : V} {d : D} (h : Rp K cA G v d) : Stt K cA B G0 G H (σ.set i (some v)) (Γ.set i (some d)) L :=
  { s with
    len := by rw [List.length_set, List.length_set, s.len]
    slot := fun j d' hj => by
      by_cases e : i = j
      · subst e
        by_cases hl : i < Γ.length
        · rw [List.getElem?_set_self hl] at hj
          cases hj
          exact ⟨v, List.getElem?_set_self (by rw [s.len]; exact hl), h⟩
        · rw [List.getElem?_eq_none (by rw [List.length_set]; omega)] at hj
          cases hj
      · rw [List.getElem?_set_ne e] at hj
        rw [List.getElem?_set_ne e]
        exact s.slot j d' hj }
/-- a name forgotten -/
theorem Stt.setN (s : Stt K cA B G0 G H σ Γ L) {i : Nat} : Stt K cA B G0 G H (σ.set i none) (Γ.set i none) L :=
  { s with
    len := by rw [List.length_set, List.length_set, s.len]
    slot := fun j d' hj => by
      by_cases e : i = j
      · subst e
        by_cases hl : i < Γ.length
        · rw [List.getElem?_set_self hl] at hj
          cases hj
        · rw [List.getElem?_eq_none (by rw [List.length_set]; omega)] at hj
          cases hj
      · rw [List.getElem?_set_ne e] at hj
        rw [List.getElem?_set_ne e]
        exact s.slot j d' hj }
/-- a new object, mutable -/
theorem Stt.new (s : Stt K cA B G0 G H σ Γ L) {p : Addr} {o : HO} {c : Cell} (h : H p = none) (q : CellOk K cA G (upd H p o) p c) : Stt K cA B G0 G (upd H p o) σ Γ ((p, c) :: L) :=
  { s.exts (Ext.newM s.gh h) with
    nd := by
      rw [List.map_cons, List.nodup_cons]
      refine ⟨fun z => ?_, s.nd⟩
      obtain ⟨⟨p', c'⟩, h1, h2⟩ := List.mem_map.mp z
      have h2 : p' = p := h2
      subst h2
      obtain ⟨_, _, q'⟩ := s.cell p' c' h1
      obtain ⟨o', ho'⟩ := q'.some
      rw [h] at ho'; cases ho'
    cell := fun p' c' h' => by
      rcases List.mem_cons.mp h' with e | h'
      · cases e
        exact ⟨s.gh.free h, s.bh.free h, q⟩
      · exact (s.exts (Ext.newM s.gh h)).cell p' c' h' }
/-- what the ledger says of p is exchanged -/
def ledPut (p : Addr) (c : Cell) : Led → Led
  | [] => []
  | (q, d) :: r => if q = p then (p, c) :: r else (q, d) :: ledPut p c r
theorem ledPut_keys (p : Addr) (c : Cell) : ∀ L : Led, (ledPut p c L).map (·.1) = L.map (·.1)
  | [] => rfl
  | (q, d) :: r => by
    unfold ledPut
    by_cases h : q = p
    · rw [if_pos h, List.map_cons, List.map_cons, h]
    · rw [if_neg h, List.map_cons, List.map_cons, ledPut_keys p c r]
theorem mem_ledPut {p : Addr} {c : Cell} : ∀ {L : Led}, (L.map (·.1)).Nodup → ∀ {q : Addr} {d : Cell}, (q, d) ∈ ledPut p c L → (q = p ∧ d = c) ∨ (q ≠ p ∧ (q, d) ∈ L)
  | [], _, _, _, h => by cases h
  | (q', d') :: r, hn, q, d, h => by
    rw [List.map_cons, List.nodup_cons] at hn
    unfold ledPut at h
    by_cases e : q' = p
    · rw [if_pos e] at h
      rcases List.mem_cons.mp h with z | z
      · cases z; exact .inl ⟨rfl, rfl⟩
      · refine .inr ⟨fun w => hn.1 ?_, List.mem_cons_of_mem _ z⟩
        rw [e, ← w]
        exact List.mem_map.mpr ⟨_, z, rfl⟩
    · rw [if_neg e] at h
      rcases List.mem_cons.mp h with z | z
      · cases z; exact .inr ⟨e, List.mem_cons_self⟩
      · rcases mem_ledPut hn.2 z with w | w
        · exact .inl w
        · exact .inr ⟨w.1, List.mem_cons_of_mem _ w.2⟩
theorem Stt.write (s : Stt K cA B G0 G H σ Γ L) {p : Addr} {o : HO} {c c' : Cell} (hp : (p, c) ∈ L) (q : CellOk K cA G (upd H p o) p c') : Stt K cA B G0 G (upd H p o) σ Γ (ledPut p c' L) := by
  obtain ⟨hg, hb, _⟩ := s.cell p c hp
  exact { s with
    gh := fun a u e => by rw [upd_ne (ne_of_none e hg)]; exact s.gh a u e
    bh := fun a u e => by rw [upd_ne (ne_of_none e hb)]; exact s.bh a u e
    nd := by rw [ledPut_keys]; exact s.nd
    cell := fun p' d' h' => by
      rcases mem_ledPut s.nd h' with ⟨e1, e2⟩ | ⟨e1, e2⟩
      · subst e1; subst e2; exact ⟨hg, hb, q⟩
      · obtain ⟨a, b, r⟩ := s.cell p' d' e2
        exact ⟨a, b, r.mono (Sub.refl G) (upd_ne e1)⟩ }
/-- fewer names, fewer objects -/
structure Wk (Γ : Fm) (L : Led) (Γ' : Fm) (L' : Led) : Prop where
  len : Γ.length = Γ'.length
  slot : ∀ (i : Nat) (d : D), Γ'[i]? = some (some d) → Γ[i]? = some (some d)
  led : L'.Sublist L
theorem Stt.wk {Γ' : Fm} {L' : Led} (s : Stt K cA B G0 G H σ Γ L) (w : Wk Γ L Γ' L') : Stt K cA B G0 G H σ Γ' L' :=
  { s with
    len := s.len.trans w.len
    slot := fun i d h => s.slot i d (w.slot i d h)
    nd := List.Nodup.sublist (w.led.map _) s.nd
    cell := fun p c h => s.cell p c (w.led.subset h) }
theorem Wk.refl : Wk Γ L Γ L := ⟨rfl, fun _ _ h => h, List.Sublist.refl _⟩
/-- nothing is known -/
def noFm (n : Nat) : Fm := List.replicate n none
theorem wk_no {n : Nat} (h : Γ.length = n) : Wk Γ L (noFm n) [] :=
  ⟨by rw [h]; exact (List.length_replicate).symm, (fun i d e => by
    unfold noFm at e
    rw [List.getElem?_replicate] at e
    split at e
    · cases e
    · cases e), List.nil_sublist _⟩
/-- a mutable list is mutable no longer -/
theorem Stt.frzL {p : Addr} {ds : List D} (s : Stt K cA B G0 G H σ Γ ((p, .lst ds) :: L)) : ∃ G', Stt K cA B G0 G' H σ Γ L ∧ Sub G G' ∧ Rp K cA G' (.ref p) (.lst ds) := by
  obtain ⟨hg, hb, vs, hv, r⟩ := s.cell p _ List.mem_cons_self
  have hs : Sub G (upd G p (.lst vs)) := Sub.upd hg
  have hn := s.nd
  rw [List.map_cons, List.nodup_cons] at hn
  refine ⟨upd G p (.lst vs), { s with
    gh := fun a u e => ?_, g0 := s.g0.trans hs, bg := fun a h => ?_, slot := fun i d h => ?_, nd := hn.2, cell := fun q c h => ?_ }, hs, .lst (.inl (.inl upd_same)) (r.mono hs)⟩
  · by_cases z : a = p
    · subst z; rw [upd_same] at e; rw [hv]; exact e
    · rw [upd_ne z] at e; exact s.gh a u e
  · rw [upd_ne (fun z => h (by rw [z]; exact hb))]; exact s.bg a h
  · obtain ⟨v, a, q⟩ := s.slot i d h
    exact ⟨v, a, q.mono hs⟩
  · obtain ⟨a, b, q'⟩ := s.cell q c (List.mem_cons_of_mem _ h)
    have ne : q ≠ p := fun z => hn.1 (by rw [← z]; exact List.mem_map.mpr ⟨_, h, rfl⟩)
    exact ⟨by rw [upd_ne ne]; exact a, b, q'.mono hs rfl⟩
end
end Pf

/-! P2: judgements: an expression, a test, arguments, statements, each with the plain result that it comes to. -/
namespace Pf
open PySem PySem.Spec L2
open PyProof.Rows hiding St

/-! ### the weakest readings -/
@[irreducible] def wpE (X : Cx) (e : Expr) : TE := fun σ H Q => ∀ (pins : List (Addr × Obj)) (s : Shared), Inv X pins σ H s → wpAny (model X.prog X.w) X.A (eval e X.env) (EP X pins σ Q) X.xe s
theorem pe_wp {X : Cx} {e : Expr} : PE X e (wpE X e) := ⟨fun pins s σ H Q I h => by unfold wpE at h; exact h pins s I⟩
theorem wpE_of {X : Cx} {e : Expr} {te : TE} (h : PE X e te) {σ : L2.St} {H : Hp} {Q : VK} (q : te σ H Q) : wpE X e σ H Q := by unfold wpE; exact fun pins s I => h.run pins s σ H Q I q
theorem wpE_imp {X : Cx} {e : Expr} {σ : L2.St} {H : Hp} {Q Q' : VK} (h : wpE X e σ H Q) (q : ∀ v H', Q v H' → Q' v H') : wpE X e σ H Q' := by
  unfold wpE at h ⊢
  exact fun pins s I =>
  thn (h pins s I) fun u s' ⟨v, H', a, b, z⟩ => ⟨v, H', a, b, q v H' z⟩
@[irreducible] def wpT (X : Cx) (e : Expr) : TT := fun σ H Q => ∀ (pins : List (Addr × Obj)) (s : Shared), Inv X pins σ H s → wpAny (model X.prog X.w) X.A (isTrue e X.env (eval e X.env)) (TP X pins σ Q) X.xe s
theorem pt_wp {X : Cx} {e : Expr} : PT X e (wpT X e) := ⟨fun pins s σ H Q I h => by unfold wpT at h; exact h pins s I⟩
theorem wpT_of {X : Cx} {e : Expr} {te : TT} (h : PT X e te) {σ : L2.St} {H : Hp} {Q : Bool → Hp → Prop} (q : te σ H Q) : wpT X e σ H Q := by unfold wpT; exact fun pins s I => h.run pins s σ H Q I q
@[irreducible] def wpW (X : Cx) (e : Expr) : TT := fun σ H Q => ∀ (whole : Sem Value) (pins : List (Addr × Obj)) (s : Shared), Inv X pins σ H s → wpAny (model X.prog X.w) X.A (isTrue e X.env whole) (TP X pins σ Q) X.xe s
theorem pw_wp {X : Cx} {e : Expr} : PW X e (wpW X e) := ⟨fun whole pins s σ H Q I h => by unfold wpW at h; exact h whole pins s I⟩
theorem wpW_of {X : Cx} {e : Expr} {te : TT} (h : PW X e te) {σ : L2.St} {H : Hp} {Q : Bool → Hp → Prop} (q : te σ H Q) : wpW X e σ H Q := by unfold wpW; exact fun whole pins s I => h.run whole pins s σ H Q I q
@[irreducible] def wpA (X : Cx) (es : List Expr) : TA := fun σ H Q => ∀ (pos : Pos) (pins : List (Addr × Obj)) (s : Shared), Inv X pins σ H s → wpAny (model X.prog X.w) X.A (spliced (backTo pos (starEach es X.env))) (AP X pins σ Q) X.xe s
theorem pa_wp {X : Cx} {es : List Expr} : PA X es (wpA X es) := ⟨fun pos pins s σ H Q I h => by unfold wpA at h; exact h pos pins s I⟩
theorem wpA_of {X : Cx} {es : List Expr} {te : TA} (h : PA X es te) {σ : L2.St} {H : Hp} {Q : List V → Hp → Prop} (q : te σ H Q) : wpA X es σ H Q := by unfold wpA; exact fun pos pins s I => h.run pos pins s σ H Q I q
@[irreducible] def wpS (X : Cx) (st : Stmt) : TS := fun D σ H => ∀ (pins : List (Addr × Obj)) (s : Shared), Inv X pins σ H s → wpAny (model X.prog X.w) X.A (exec st X.env) (SP X pins D) X.xe s
theorem ps_wp {X : Cx} {st : Stmt} : PS X st (wpS X st) := ⟨fun pins s σ H D I h => by unfold wpS at h; exact h pins s I⟩
theorem wpS_of {X : Cx} {st : Stmt} {ts : TS} (h : PS X st ts) {σ : L2.St} {H : Hp} {D : Ends} (q : ts D σ H) : wpS X st D σ H := by unfold wpS; exact fun pins s I => h.run pins s σ H D I q
@[irreducible] def wpSs (X : Cx) (sts : List Stmt) : TS := fun D σ H => ∀ (pins : List (Addr × Obj)) (s : Shared), Inv X pins σ H s → wpAny (model X.prog X.w) X.A (execs sts X.env) (SP X pins D) X.xe s
theorem pss_wp {X : Cx} {sts : List Stmt} : PSs X sts (wpSs X sts) := ⟨fun pins s σ H D I h => by unfold wpSs at h; exact h pins s I⟩
theorem wpSs_of {X : Cx} {sts : List Stmt} {ts : TS} (h : PSs X sts ts) {σ : L2.St} {H : Hp} {D : Ends} (q : ts D σ H) : wpSs X sts D σ H := by unfold wpSs; exact fun pins s I => h.run pins s σ H D I q
@[irreducible] def wpG (X : Cx) (tg : Expr) : TG := fun v σ H Q => ∀ (pins : List (Addr × Obj)) (s : Shared) (u : Value), Inv X pins σ H s → RelV v u →
    wpAny (model X.prog X.w) X.A (assign tg X.env u) (fun _ s' => ∃ σ' H', Inv X pins σ' H' s' ∧ Q σ' H') X.xe s
theorem pg_wp {X : Cx} {tg : Expr} : PG X tg (wpG X tg) := ⟨fun pins s σ H v u Q I r h => by unfold wpG at h; exact h pins s u I r⟩
theorem wpG_of {X : Cx} {tg : Expr} {g : TG} (h : PG X tg g) {v : V} {σ : L2.St} {H : Hp} {Q : L2.St → Hp → Prop} (q : g v σ H Q) : wpG X tg v σ H Q := by unfold wpG; exact fun pins s u I r => h.run pins s σ H v u Q I r q
theorem wpG_imp {X : Cx} {tg : Expr} {v : V} {σ : L2.St} {H : Hp} {Q Q' : L2.St → Hp → Prop} (h : wpG X tg v σ H Q) (q : ∀ σ H, Q σ H → Q' σ H) : wpG X tg v σ H Q' := by
  unfold wpG at h ⊢
  exact fun pins s u I r =>
  thn (h pins s u I r) fun _ s' ⟨σ', H', a, z⟩ => ⟨σ', H', a, q σ' H' z⟩
@[irreducible] def wpGs (X : Cx) (ts : List Expr) : TGs := fun vs σ H Q => ∀ (pins : List (Addr × Obj)) (s : Shared) (us : List Value), Inv X pins σ H s → Vals vs us →
    wpAny (model X.prog X.w) X.A (assignInOrder ((assignEach ts X.env).map (·.2)) us) (fun _ s' => ∃ σ' H', Inv X pins σ' H' s' ∧ Q σ' H') X.xe s
theorem pgs_wp {X : Cx} {ts : List Expr} : PGs X ts (wpGs X ts) := ⟨fun pins s σ H v u Q I r h => by unfold wpGs at h; exact h pins s u I r⟩
theorem wpGs_of {X : Cx} {ts : List Expr} {g : TGs} (h : PGs X ts g) {vs : List V} {σ : L2.St} {H : Hp} {Q : L2.St → Hp → Prop} (q : g vs σ H Q) : wpGs X ts vs σ H Q := by unfold wpGs; exact fun pins s u I r => h.run pins s σ H vs u Q I r q
@[irreducible] def wpI (X : Cx) (tg iter : Expr) : TI := fun σ H R => ∀ (pins : List (Addr × Obj)) (s : Shared), Inv X pins σ H s →
    wpAny (model X.prog X.w) X.A (eval iter X.env) (fun v s1 => wpAny (model X.prog X.w) X.A (pyIter v) (PIE X pins σ tg R) X.xe s1) X.xe s
theorem pi_wp {X : Cx} {tg iter : Expr} : PI X tg iter (wpI X tg iter) := ⟨fun pins s σ H R I h => by unfold wpI at h; exact h pins s I⟩
theorem wpI_of {X : Cx} {tg iter : Expr} {wi : TI} (h : PI X tg iter wi) {σ : L2.St} {H : Hp} {R : It → Hp → Prop} (q : wi σ H R) : wpI X tg iter σ H R := by unfold wpI; exact fun pins s I => h.run pins s σ H R I q
/-- by values -/
def wpO (X : Cx) (f : Value → Value → Sem Value) : R2 := fun x y H Q => ∀ (pins : List (Addr × Obj)) (s : Shared) (σ : L2.St) (v u : Value), Inv X pins σ H s → RelV x v → RelV y u → wpAny (model X.prog X.w) X.A (f v u) (EP X pins σ Q) X.xe s
theorem op_wp {X : Cx} {f : Value → Value → Sem Value} : OpR X f (wpO X f) := fun pins s σ H x y v u Q I r r' h => h pins s σ v u I r r'
theorem wpO_of {X : Cx} {f : Value → Value → Sem Value} {r : R2} (h : OpR X f r) {x y : V} {H : Hp} {Q : VK} (q : r x y H Q) : wpO X f x y H Q := fun pins s σ v u I a b => h pins s σ H x y v u Q I a b q
def wpU (X : Cx) (f : Value → Sem Value) : V → Hp → VK → Prop := fun x H Q => ∀ (pins : List (Addr × Obj)) (s : Shared) (σ : L2.St) (v : Value), Inv X pins σ H s → RelV x v → wpAny (model X.prog X.w) X.A (f v) (EP X pins σ Q) X.xe s
theorem un_wp {X : Cx} {f : Value → Sem Value} : UnR X f (wpU X f) := fun pins s σ H x v Q I r h => h pins s σ v I r
theorem wpU_of {X : Cx} {f : Value → Sem Value} {r : V → Hp → VK → Prop} (h : UnR X f r) {x : V} {H : Hp} {Q : VK} (q : r x H Q) : wpU X f x H Q := fun pins s σ v I a => h pins s σ H x v Q I a q
def wpC (X : Cx) (f : Value) : List V → Hp → VK → Prop := fun xs H Q => ∀ (pins : List (Addr × Obj)) (s : Shared) (σ : L2.St) (us : List Value), Inv X pins σ H s → Vals xs us → wpAny (model X.prog X.w) X.A (call f us) (EP X pins σ Q) X.xe s
theorem call_wp {X : Cx} {f : Value} : CallR X f (wpC X f) := fun pins s σ H xs us Q I r h => h pins s σ us I r
theorem wpC_of {X : Cx} {f : Value} {r : List V → Hp → VK → Prop} (h : CallR X f r) {xs : List V} {H : Hp} {Q : VK} (q : r xs H Q) : wpC X f xs H Q := fun pins s σ us I a => h pins s σ H xs us Q I a q

/-! ### the configuration, results -/
structure Cfg where
  X : Cx
  cA : Str → Addr
  W : WX
abbrev Cfg.K (c : Cfg) : PySem.W.Frag := c.X.K
def ErrR (K : PySem.W.Frag) (cA : Str → Addr) (G H : Hp) (e : Err) (cls : Value) (d : Option Addr) : Prop :=
  cls = .ref (cA e.c) ∧ ((e.ns = [] ∧ e.vs = [] ∧ d = none) ∨ ∃ dd fs, d = some dd ∧ H dd = some (.xd fs) ∧ fs.map (·.1) = e.ns ∧ RpAll K cA G (fs.map (·.2)) e.vs)
/-- what is wanted behind an expression -/
def Pst {α : Type} [Enc α] (c : Cfg) (G H : Hp) (σ : L2.St) (Q : VK) : M α → Prop
  | .stuck => False
  | .ok x => ∀ v G' H', Ext G H G' H' → Rp c.K c.cA G' v (enc x) → Q v H'
  | .raise e => ∀ cls d G' H', Ext G H G' H' → ErrR c.K c.cA G' H' e cls d → c.W cls d σ H'
def PstT (c : Cfg) (G H : Hp) (σ : L2.St) (Q : Bool → Hp → Prop) : M Bool → Prop
  | .stuck => False
  | .ok x => ∀ G' H', Ext G H G' H' → Q x H'
  | .raise e => ∀ cls d G' H', Ext G H G' H' → ErrR c.K c.cA G' H' e cls d → c.W cls d σ H'
def PstA (c : Cfg) (G H : Hp) (σ : L2.St) (Q : List V → Hp → Prop) : M (List D) → Prop
  | .stuck => False
  | .ok ds => ∀ vs G' H', Ext G H G' H' → RpAll c.K c.cA G' vs ds → Q vs H'
  | .raise e => ∀ cls d G' H', Ext G H G' H' → ErrR c.K c.cA G' H' e cls d → c.W cls d σ H'
/-- a new list, mutable -/
def PstN {α : Type} [Enc α] (c : Cfg) (G H : Hp) (σ : L2.St) (Q : VK) : M (List α) → Prop
  | .stuck => False
  | .ok xs => ∀ p vs G' H', Ext G H G' H' → H p = none → G' p = none → H' p = some (.lst vs) → RpAll c.K c.cA G' vs (encL xs) → Q (.ref p) H'
  | .raise e => ∀ cls d G' H', Ext G H G' H' → ErrR c.K c.cA G' H' e cls d → c.W cls d σ H'
/-- the expression e comes to m -/
def CE {α : Type} [Enc α] (c : Cfg) (e : Expr) (Γ : Fm) (L : Led) (m : M α) : Prop :=
  ∀ (B G0 G H : Hp) (σ : L2.St) (Q : VK), Stt c.K c.cA B G0 G H σ Γ L → Pst c G H σ Q m → wpE c.X e σ H Q
def CT (c : Cfg) (e : Expr) (Γ : Fm) (L : Led) (m : M Bool) : Prop :=
  ∀ (B G0 G H : Hp) (σ : L2.St) (Q : Bool → Hp → Prop), Stt c.K c.cA B G0 G H σ Γ L → PstT c G H σ Q m → wpT c.X e σ H Q
def CW (c : Cfg) (e : Expr) (Γ : Fm) (L : Led) (m : M Bool) : Prop :=
  ∀ (B G0 G H : Hp) (σ : L2.St) (Q : Bool → Hp → Prop), Stt c.K c.cA B G0 G H σ Γ L → PstT c G H σ Q m → wpW c.X e σ H Q
def CA (c : Cfg) (es : List Expr) (Γ : Fm) (L : Led) (m : M (List D)) : Prop :=
  ∀ (B G0 G H : Hp) (σ : L2.St) (Q : List V → Hp → Prop), Stt c.K c.cA B G0 G H σ Γ L → PstA c G H σ Q m → wpA c.X es σ H Q
def CN {α : Type} [Enc α] (c : Cfg) (e : Expr) (Γ : Fm) (L : Led) (m : M (List α)) : Prop :=
  ∀ (B G0 G H : Hp) (σ : L2.St) (Q : VK), Stt c.K c.cA B G0 G H σ Γ L → PstN c G H σ Q m → wpE c.X e σ H Q

section
variable {c : Cfg} {Γ : Fm} {L : Led} {α β γ : Type} [Enc α] [Enc β] [Enc γ]
variable {G H G1 H1 : Hp} {σ : L2.St}
/-- what is wanted later is wanted now -/
theorem Pst.ext {Q : VK} {m : M α} (x : Ext G H G1 H1) (h : Pst c G H σ Q m) : Pst c G1 H1 σ Q m := by
  cases m with
  | stuck => exact h
  | ok y => exact fun v G' H' e r => h v G' H' (x.trans e) r
  | raise z => exact fun cls d G' H' e r => h cls d G' H' (x.trans e) r
theorem PstT.ext {Q : Bool → Hp → Prop} {m : M Bool} (x : Ext G H G1 H1) (h : PstT c G H σ Q m) : PstT c G1 H1 σ Q m := by
  cases m with
  | stuck => exact h
  | ok y => exact fun G' H' e => h G' H' (x.trans e)
  | raise z => exact fun cls d G' H' e r => h cls d G' H' (x.trans e) r
theorem PstA.ext {Q : List V → Hp → Prop} {m : M (List D)} (x : Ext G H G1 H1) (h : PstA c G H σ Q m) : PstA c G1 H1 σ Q m := by
  cases m with
  | stuck => exact h
  | ok y => exact fun v G' H' e r => h v G' H' (x.trans e) r
  | raise z => exact fun cls d G' H' e r => h cls d G' H' (x.trans e) r
theorem PstN.ext {Q : VK} {m : M (List α)} (x : Ext G H G1 H1) (h : PstN c G H σ Q m) : PstN c G1 H1 σ Q m := by
  cases m with
  | stuck => exact h
  | ok y => exact fun p vs G' H' e n r => h p vs G' H' (x.trans e) (x.h.free n) r
  | raise z => exact fun cls d G' H' e r => h cls d G' H' (x.trans e) r
/-- a new list, frozen -/
theorem Pst.ofN {Q : VK} {m : M (List α)} (h : Pst c G H σ Q m) : PstN c G H σ Q m := by
  cases m with
  | stuck => exact h
  | ok y =>
    intro p vs G' H' e n g hp r
    refine h (.ref p) (upd G' p (.lst vs)) H' ⟨e.g.trans (Sub.upd g), fun a u q => ?_, e.h, fun a ha => ?_⟩ (.lst (.inl (.inl upd_same)) (r.mono (Sub.upd g)))
    · by_cases z : a = p
      · subst z; rw [upd_same] at q; rw [hp]; exact q
      · rw [upd_ne z] at q; exact e.gh a u q
    · rw [upd_ne (fun z => ha (by rw [z]; exact n))]; exact e.fr a ha
  | raise z => exact fun cls d G' H' e r => h cls d G' H' e r
theorem ce_of_cn {e : Expr} {m : M (List α)} (h : CN c e Γ L m) : CE c e Γ L m := fun B G0 G H σ Q s p => h B G0 G H σ Q s p.ofN
/-- the result said in another way -/
theorem ce_is {e : Expr} {m m' : M α} (h : CE c e Γ L m) (q : m = m') : CE c e Γ L m' := q ▸ h
theorem ct_is {e : Expr} {m m' : M Bool} (h : CT c e Γ L m) (q : m = m') : CT c e Γ L m' := q ▸ h
theorem cn_is {e : Expr} {m m' : M (List α)} (h : CN c e Γ L m) (q : m = m') : CN c e Γ L m' := q ▸ h

/-- one part, then the rest -/
theorem CE.then {τ : Type} {e : Expr} {m : M α} {k : α → M τ} {B G0 G H : Hp} {σ : L2.St} {R : VK} {P : M τ → Prop} (h : CE c e Γ L m) (s : Stt c.K c.cA B G0 G H σ Γ L)
    (p : P (m.bind k)) (hs : ¬ P .stuck) (hr : ∀ e, P (.raise e) → Pst (α := α) c G H σ R (.raise e))
    (ho : ∀ x v G' H', P (k x) → Ext G H G' H' → Stt c.K c.cA B G0 G' H' σ Γ L → Rp c.K c.cA G' v (enc x) → R v H') : wpE c.X e σ H R := by
  cases m with
  | stuck => exact absurd p hs
  | raise z => exact h B G0 G H σ R s (hr z p)
  | ok x => exact h B G0 G H σ R s fun v G' H' e r => ho x v G' H' p e (s.exts e) r
theorem CN.then {τ : Type} {e : Expr} {m : M (List α)} {k : List α → M τ} {B G0 G H : Hp} {σ : L2.St} {R : VK} {P : M τ → Prop} (h : CN c e Γ L m) (s : Stt c.K c.cA B G0 G H σ Γ L)
    (p : P (m.bind k)) (hs : ¬ P .stuck) (hr : ∀ e, P (.raise e) → PstN (α := α) c G H σ R (.raise e))
    (ho : ∀ xs a vs G' H', P (k xs) → Ext G H G' H' → Stt c.K c.cA B G0 G' H' σ Γ L → H a = none → G' a = none → H' a = some (.lst vs) → RpAll c.K c.cA G' vs (encL xs) → R (.ref a) H') : wpE c.X e σ H R := by
  cases m with
  | stuck => exact absurd p hs
  | raise z => exact h B G0 G H σ R s (hr z p)
  | ok xs => exact h B G0 G H σ R s fun a vs G' H' e n g ha r => ho xs a vs G' H' p e (s.exts e) n g ha r
theorem CT.then {τ : Type} {e : Expr} {m : M Bool} {k : Bool → M τ} {B G0 G H : Hp} {σ : L2.St} {R : Bool → Hp → Prop} {P : M τ → Prop} (h : CT c e Γ L m) (s : Stt c.K c.cA B G0 G H σ Γ L)
    (p : P (m.bind k)) (hs : ¬ P .stuck) (hr : ∀ e, P (.raise e) → PstT c G H σ R (.raise e))
    (ho : ∀ x G' H', P (k x) → Ext G H G' H' → Stt c.K c.cA B G0 G' H' σ Γ L → R x H') : wpT c.X e σ H R := by
  cases m with
  | stuck => exact absurd p hs
  | raise z => exact h B G0 G H σ R s (hr z p)
  | ok x => exact h B G0 G H σ R s fun G' H' e => ho x G' H' p e (s.exts e)
theorem CA.then {τ : Type} {es : List Expr} {m : M (List D)} {k : List D → M τ} {B G0 G H : Hp} {σ : L2.St} {R : List V → Hp → Prop} {P : M τ → Prop} (h : CA c es Γ L m) (s : Stt c.K c.cA B G0 G H σ Γ L)
    (p : P (m.bind k)) (hs : ¬ P .stuck) (hr : ∀ e, P (.raise e) → PstA c G H σ R (.raise e))
    (ho : ∀ ds vs G' H', P (k ds) → Ext G H G' H' → Stt c.K c.cA B G0 G' H' σ Γ L → RpAll c.K c.cA G' vs ds → R vs H') : wpA c.X es σ H R := by
  cases m with
  | stuck => exact absurd p hs
  | raise z => exact h B G0 G H σ R s (hr z p)
  | ok x => exact h B G0 G H σ R s fun v G' H' e r => ho x v G' H' p e (s.exts e) r

/-! ### names and constants -/
theorem ce_var {i : Nat} {x : Str} {pos : Pos} {y : α} (hi : Γ[i]? = some (some (enc y))) (hN : c.X.N[i]? = some x := by rfl) (hv : Vis c.X.env.scope x := by first | exact Or.inl rfl | exact Or.inr (Or.inl rfl) | exact Or.inr (Or.inr rfl))
    (hd : (x == ("__debug__" : Str)) = false := by decide) (hcd : (x == ("__classdict__" : Str)) = false := by decide) : CE c (.Name x pos) Γ L (.ok y) := fun B G0 G H σ Q s p => by
  obtain ⟨v, hσ, r⟩ := s.slot i _ hi
  exact wpE_of (pe_var hN hv hd hcd) ⟨v, hσ, p v G H (Ext.refl s.gh) r⟩
theorem ce_int {i : Int} {j pos} : CE c (.Constant (.int i) j pos) Γ L (.ok i) := fun B G0 G H σ Q s p => wpE_of pe_int (p _ G H (Ext.refl s.gh) (.int i))
theorem ce_bl {b : Bool} {j pos} : CE c (.Constant (.bool b) j pos) Γ L (.ok b) := fun B G0 G H σ Q s p => wpE_of pe_bl (p _ G H (Ext.refl s.gh) (.bl b))
theorem ce_str {z : Str} {j pos} : CE c (.Constant (.str z) j pos) Γ L (.ok z) := fun B G0 G H σ Q s p => wpE_of pe_str (p _ G H (Ext.refl s.gh) (.str z))
theorem ce_non {j pos} : CE c (.Constant .none j pos) Γ L (.ok ()) := fun B G0 G H σ Q s p => wpE_of pe_non (p _ G H (Ext.refl s.gh) .non)
theorem ce_nonO {j pos} : CE c (.Constant .none j pos) Γ L (.ok (none : Option α)) := fun B G0 G H σ Q s p => wpE_of pe_non (p _ G H (Ext.refl s.gh) .non)
/-- a value of another type, the same data -/
theorem ce_as {e : Expr} {m : M α} {f : α → β} (h : CE c e Γ L m) (hf : ∀ x, enc (f x) = enc x) : CE c e Γ L (m.bind fun x => .ok (f x)) := fun B G0 G H σ Q s p => by
  refine h.then (P := Pst c G H σ Q) s p (fun z => z) (fun e z => z) fun x v G' H' p e s' r => ?_
  exact p v G' H' e (by rw [hf]; exact r)

/-! ### operators -/
def BOp (c : Cfg) (f : Value → Value → Sem Value) (x : α) (y : β) (m : M γ) : Prop :=
  ∀ (G H : Hp) (σ : L2.St) (v u : V) (Q : VK), Sub G H → Rp c.K c.cA G v (enc x) → Rp c.K c.cA G u (enc y) → Pst c G H σ Q m → wpO c.X f v u H Q
theorem ce_bin {op : Operator} {a b : Expr} {pos : Pos} {ma : M α} {mb : M β} {g : α → β → M γ} (ho : ∀ x y, BOp c (binaryOp op) x y (g x y)) (ha : CE c a Γ L ma) (hb : CE c b Γ L mb) :
    CE c (.BinOp a op b pos) Γ L (ma.bind fun x => mb.bind fun y => g x y) := fun B G0 G H σ Q s p => by
  refine wpE_of (pe_op op_wp pe_wp pe_wp) ?_
  refine ha.then (P := Pst c G H σ Q) s p (fun z => z) (fun e z => z) fun x v G1 H1 p e1 s1 r1 => ?_
  refine hb.then (P := Pst c G1 H1 σ Q) s1 (p.ext e1) (fun z => z) (fun e z => z) fun y u G2 H2 p e2 s2 r2 => ?_
  exact ho x y G2 H2 σ v u Q s2.gh (r1.mono e2.g) r2 (p.ext e2)
theorem ce_cmp {op : CmpOp} {a b : Expr} {pos : Pos} {ma : M α} {mb : M β} {g : α → β → M γ} (ho : ∀ x y, BOp c (compareOp op) x y (g x y)) (ha : CE c a Γ L ma) (hb : CE c b Γ L mb) (hm : behindInMarks op b = false) :
    CE c (.Compare a [op] [b] pos) Γ L (ma.bind fun x => mb.bind fun y => g x y) := fun B G0 G H σ Q s p => by
  refine wpE_of (pe_cmpR op_wp pe_wp pe_wp hm) ?_
  refine ha.then (P := Pst c G H σ Q) s p (fun z => z) (fun e z => z) fun x v G1 H1 p e1 s1 r1 => ?_
  refine hb.then (P := Pst c G1 H1 σ Q) s1 (p.ext e1) (fun z => z) (fun e z => z) fun y u G2 H2 p e2 s2 r2 => ?_
  exact ho x y G2 H2 σ v u Q s2.gh (r1.mono e2.g) r2 (p.ext e2)
theorem ce_un {op : UnaryOp} {a : Expr} {pos : Pos} {ma : M α} {g : α → M β} (ho : ∀ (x : α) (G H : Hp) (σ : L2.St) (v : V) (Q : VK), Sub G H → Rp c.K c.cA G v (enc x) → Pst c G H σ Q (g x) → wpU c.X (unaryOp op) v H Q)
    (ha : CE c a Γ L ma) : CE c (.UnaryOp op a pos) Γ L (ma.bind g) := fun B G0 G H σ Q s p => by
  refine wpE_of (pe_un un_wp pe_wp) ?_
  refine ha.then (P := Pst c G H σ Q) s p (fun z => z) (fun e z => z) fun x v G1 H1 p e1 s1 r1 => ?_
  exact ho x G1 H1 σ v Q s1.gh r1 (p.ext e1)

/-! ### tests -/
/-- an expression that gives a bool -/
theorem ct_val {e : Expr} {m : M Bool} (h : CE c e Γ L m) (he : ∀ whole, isTrue e c.X.env whole = (do let v ← whole; standAt e.pos; holding [v] (truthy v)) := by intro _; rfl) : CT c e Γ L m := fun B G0 G H σ Q s p => by
  refine wpT_of (pt_val pe_wp he) ?_
  show wpE c.X e σ H fun x H1 => ∃ b, x = .bl b ∧ Q b H1
  cases m with
  | stuck => exact p.elim
  | raise z => exact h B G0 G H σ _ s p
  | ok b => exact h B G0 G H σ _ s fun v G' H' e r => by cases r; exact ⟨b, rfl, p G' H' e⟩
theorem ct_cmp {op : CmpOp} {a b : Expr} {pos : Pos} {ma : M α} {mb : M β} {g : α → β → M Bool} (ho : ∀ x y, BOp c (compareOp op) x y (g x y)) (ha : CE c a Γ L ma) (hb : CE c b Γ L mb) (hm : behindInMarks op b = false) :
    CT c (.Compare a [op] [b] pos) Γ L (ma.bind fun x => mb.bind fun y => g x y) := fun B G0 G H σ Q s p => by
  refine wpT_of (pt_cmpR op_wp pe_wp pe_wp hm) ?_
  refine ha.then (P := PstT c G H σ Q) s p (fun z => z) (fun e z => z) fun x v G1 H1 p e1 s1 r1 => ?_
  refine hb.then (P := PstT c G1 H1 σ Q) s1 (p.ext e1) (fun z => z) (fun e z => z) fun y u G2 H2 p e2 s2 r2 => ?_
  refine ho x y G2 H2 σ v u _ s2.gh (r1.mono e2.g) r2 ?_
  cases hg : g x y with
  | stuck => rw [hg] at p; exact p
  | raise z => rw [hg] at p; exact (p.ext e2)
  | ok k =>
    rw [hg] at p
    exact fun v' G' H' e r => by cases r; exact ⟨k, rfl, p G' H' (e2.trans e)⟩
theorem CW.ct {e : Expr} {m : M Bool} (h : CW c e Γ L m) : CT c e Γ L m := fun B G0 G H σ Q s p => wpT_of pw_wp.pt (h B G0 G H σ Q s p)
theorem cw_and1 {a : Expr} {pos : Pos} {m : M Bool} (h : CT c a Γ L m) : CW c (.BoolOp .And [a] pos) Γ L m := fun B G0 G H σ Q s p => wpW_of (pw_and1 pt_wp) (h B G0 G H σ Q s p)
theorem cw_or1 {a : Expr} {pos : Pos} {m : M Bool} (h : CT c a Γ L m) : CW c (.BoolOp .Or [a] pos) Γ L m := fun B G0 G H σ Q s p => wpW_of (pw_or1 pt_wp) (h B G0 G H σ Q s p)
theorem cw_and {a b : Expr} {rest : List Expr} {pos : Pos} {ma mb : M Bool} (ha : CT c a Γ L ma) (hb : CW c (.BoolOp .And (b :: rest) pos) Γ L mb) :
    CW c (.BoolOp .And (a :: b :: rest) pos) Γ L (ma.bind fun x => if x = true then mb else .ok false) := fun B G0 G H σ Q s p => by
  refine wpW_of (pw_and pt_wp pw_wp) ?_
  refine ha.then (P := PstT c G H σ Q) s p (fun z => z) (fun e z => z) fun x G1 H1 p e1 s1 => ?_
  cases x with
  | true => exact hb B G0 G1 H1 σ Q s1 (PstT.ext e1 p)
  | false => exact p G1 H1 e1
theorem cw_or {a b : Expr} {rest : List Expr} {pos : Pos} {ma mb : M Bool} (ha : CT c a Γ L ma) (hb : CW c (.BoolOp .Or (b :: rest) pos) Γ L mb) :
    CW c (.BoolOp .Or (a :: b :: rest) pos) Γ L (ma.bind fun x => if x = true then .ok true else mb) := fun B G0 G H σ Q s p => by
  refine wpW_of (pw_or pt_wp pw_wp) ?_
  refine ha.then (P := PstT c G H σ Q) s p (fun z => z) (fun e z => z) fun x G1 H1 p e1 s1 => ?_
  cases x with
  | true => exact p G1 H1 e1
  | false => exact hb B G0 G1 H1 σ Q s1 (PstT.ext e1 p)
theorem ct_not {a : Expr} {pos : Pos} {m : M Bool} (h : CT c a Γ L m) : CT c (.UnaryOp .Not a pos) Γ L (m.bind fun x => .ok (!x)) := fun B G0 G H σ Q s p => by
  refine wpT_of (pt_not pt_wp) ?_
  refine h.then (P := PstT c G H σ Q) s p (fun z => z) (fun e z => z) fun x G1 H1 p e1 s1 => ?_
  exact p G1 H1 e1
/-- and, or, not as values -/
theorem ce_one {op : BoolOp} {a : Expr} {pos : Pos} {m : M Bool} (h : CE c a Γ L m) : CE c (.BoolOp op [a] pos) Γ L m := fun B G0 G H σ Q s p => wpE_of (pe_one pe_wp) (h B G0 G H σ Q s p)
theorem ce_and {a b : Expr} {rest : List Expr} {pos : Pos} {ma mb : M Bool} (ha : CE c a Γ L ma) (hb : CE c (.BoolOp .And (b :: rest) pos) Γ L mb) :
    CE c (.BoolOp .And (a :: b :: rest) pos) Γ L (ma.bind fun x => if x = true then mb else .ok false) := fun B G0 G H σ Q s p => by
  refine wpE_of (pe_and pe_wp pe_wp) ?_
  refine ha.then (P := Pst c G H σ Q) s p (fun z => z) (fun e z => z) fun x v G1 H1 p e1 s1 r => ?_
  cases r
  refine ⟨x, rfl, ?_⟩
  cases x with
  | true => exact hb B G0 G1 H1 σ Q s1 (Pst.ext e1 p)
  | false => exact p _ G1 H1 e1 (.bl false)
theorem ce_or {a b : Expr} {rest : List Expr} {pos : Pos} {ma mb : M Bool} (ha : CE c a Γ L ma) (hb : CE c (.BoolOp .Or (b :: rest) pos) Γ L mb) :
    CE c (.BoolOp .Or (a :: b :: rest) pos) Γ L (ma.bind fun x => if x = true then .ok true else mb) := fun B G0 G H σ Q s p => by
  refine wpE_of (pe_or pe_wp pe_wp) ?_
  refine ha.then (P := Pst c G H σ Q) s p (fun z => z) (fun e z => z) fun x v G1 H1 p e1 s1 r => ?_
  cases r
  refine ⟨x, rfl, ?_⟩
  cases x with
  | true => exact p _ G1 H1 e1 (.bl true)
  | false => exact hb B G0 G1 H1 σ Q s1 (Pst.ext e1 p)
theorem ce_not {a : Expr} {pos : Pos} {m : M Bool} (h : CE c a Γ L m) : CE c (.UnaryOp .Not a pos) Γ L (m.bind fun x => .ok (!x)) := fun B G0 G H σ Q s p => by
  refine wpE_of (pe_not pe_wp) ?_
  refine h.then (P := Pst c G H σ Q) s p (fun z => z) (fun e z => z) fun x v G1 H1 p e1 s1 r => ?_
  cases r
  exact ⟨x, rfl, p _ G1 H1 e1 (.bl (!x))⟩
theorem ce_ifExp {t a b : Expr} {pos : Pos} {mt : M Bool} {ma mb : M α} (ht : CT c t Γ L mt) (ha : CE c a Γ L ma) (hb : CE c b Γ L mb) :
    CE c (.IfExp t a b pos) Γ L (mt.bind fun x => if x = true then ma else mb) := fun B G0 G H σ Q s p => by
  refine wpE_of (pe_ifExp pt_wp pe_wp pe_wp) ?_
  refine ht.then (P := Pst c G H σ Q) s p (fun z => z) (fun e z => z) fun x G1 H1 p e1 s1 => ?_
  cases x with
  | true => exact ha B G0 G1 H1 σ Q s1 (Pst.ext e1 p)
  | false => exact hb B G0 G1 H1 σ Q s1 (Pst.ext e1 p)

/-! ### arguments, tuples, lists -/
theorem ca_nil : CA c [] Γ L (.ok []) := fun B G0 G H σ Q s p => wpA_of pa_nil (p _ G H (Ext.refl s.gh) .nil)
theorem ca_cons {e : Expr} {es : List Expr} {m : M α} {mr : M (List D)} (he : CE c e Γ L m) (hr : CA c es Γ L mr) (hs : starEach (e :: es) c.X.env = (false, eval e c.X.env) :: starEach es c.X.env := by rfl) :
    CA c (e :: es) Γ L (m.bind fun x => mr.bind fun r => .ok (enc x :: r)) := fun B G0 G H σ Q s p => by
  refine wpA_of (pa_cons pe_wp pa_wp hs) ?_
  refine he.then (P := PstA c G H σ Q) s p (fun z => z) (fun e z => z) fun x v G1 H1 p e1 s1 r1 => ?_
  refine hr.then (P := PstA c G1 H1 σ Q) s1 (PstA.ext e1 p) (fun z => z) (fun e z => z) fun ds vs G2 H2 p e2 s2 r2 => ?_
  exact p _ G2 H2 e2 (.cons (r1.mono e2.g) r2)
/-- a new tuple of data -/
theorem tup_new {ds : List D} {vs : List V} {Q : VK} {m : M α} {x : α} (s : Sub G H) (r : RpAll c.K c.cA G vs ds) (hx : enc x = .tup ds) (p : Pst c G H σ Q (.ok x)) :
    ∀ a, H a = none → Q (.ref a) (upd H a (.tup vs)) := fun a ha => by
  refine p _ _ _ (Ext.new s ha) ?_
  rw [hx]
  exact .tup (SqT.of upd_same) (r.mono (Sub.upd (s.free ha)))
theorem ce_tup0 {x1} {pos : Pos} : CE c (.Tuple [] x1 pos) Γ L (.ok (⟨[]⟩ : Tup α)) := fun B G0 G H σ Q s p => by
  refine wpE_of (pe_tup pa_nil) ⟨Nat.zero_le _, tup_new (m := .ok (⟨[]⟩ : Tup α)) s.gh .nil rfl p⟩
theorem ce_tup2 {e1 e2 : Expr} {x1} {pos : Pos} {m1 : M α} {m2 : M β} (h1 : CE c e1 Γ L m1) (h2 : CE c e2 Γ L m2) (s1 : starEach [e1, e2] c.X.env = (false, eval e1 c.X.env) :: starEach [e2] c.X.env := by rfl) (s2 : starEach [e2] c.X.env = (false, eval e2 c.X.env) :: starEach [] c.X.env := by rfl) :
    CE c (.Tuple [e1, e2] x1 pos) Γ L (m1.bind fun x => m2.bind fun y => .ok (x, y)) := fun B G0 G H σ Q s p => by
  refine wpE_of (pe_tup (pa_cons pe_wp (pa_cons pe_wp pa_nil s2) s1)) ?_
  refine h1.then (P := Pst c G H σ Q) s p (fun z => z) (fun e z => z) fun x v G1 H1 p e1 s1 r1 => ?_
  refine h2.then (P := Pst c G1 H1 σ Q) s1 (p.ext e1) (fun z => z) (fun e z => z) fun y u G2 H2 p e2 s2 r2 => ?_
  exact ⟨by show 2 ≤ sizeLine; decide, tup_new (m := .ok (x, y)) s2.gh (.cons (r1.mono e2.g) (.cons r2 .nil)) rfl (Pst.ext e2 p)⟩
theorem ce_tup3 {δ : Type} [Enc δ] {e1 e2 e3 : Expr} {x1} {pos : Pos} {m1 : M α} {m2 : M β} {m3 : M γ} (h1 : CE c e1 Γ L m1) (h2 : CE c e2 Γ L m2) (h3 : CE c e3 Γ L m3) (s1 : starEach [e1, e2, e3] c.X.env = (false, eval e1 c.X.env) :: starEach [e2, e3] c.X.env := by rfl)
    (s2 : starEach [e2, e3] c.X.env = (false, eval e2 c.X.env) :: starEach [e3] c.X.env := by rfl) (s3 : starEach [e3] c.X.env = (false, eval e3 c.X.env) :: starEach [] c.X.env := by rfl) :
    CE c (.Tuple [e1, e2, e3] x1 pos) Γ L (m1.bind fun x => m2.bind fun y => m3.bind fun z => .ok (T3.mk x y z)) := fun B G0 G H σ Q s p => by
  refine wpE_of (pe_tup (pa_cons pe_wp (pa_cons pe_wp (pa_cons pe_wp pa_nil s3) s2) s1)) ?_
  refine h1.then (P := Pst c G H σ Q) s p (fun z => z) (fun e z => z) fun x v G1 H1 p e1 s1 r1 => ?_
  refine h2.then (P := Pst c G1 H1 σ Q) s1 (p.ext e1) (fun z => z) (fun e z => z) fun y u G2 H2 p e2 s2 r2 => ?_
  refine h3.then (P := Pst c G2 H2 σ Q) s2 (Pst.ext e2 p) (fun z => z) (fun e z => z) fun z t G3 H3 p e3 s3 r3 => ?_
  exact ⟨by show 3 ≤ sizeLine; decide, tup_new (m := .ok (T3.mk x y z)) s3.gh (.cons ((r1.mono e2.g).mono e3.g) (.cons (r2.mono e3.g) (.cons r3 .nil))) rfl (Pst.ext e3 p)⟩
/-- arguments of one type -/
def CAL (c : Cfg) (es : List Expr) (Γ : Fm) (L : Led) (m : M (List α)) : Prop := CA c es Γ L (m.bind fun xs => .ok (encL xs))
theorem cal_nil : CAL c [] Γ L (.ok ([] : List α)) := ca_nil
theorem cal_cons {e : Expr} {es : List Expr} {m : M α} {mr : M (List α)} (he : CE c e Γ L m) (hr : CAL c es Γ L mr) (hs : starEach (e :: es) c.X.env = (false, eval e c.X.env) :: starEach es c.X.env := by rfl) :
    CAL c (e :: es) Γ L (m.bind fun x => mr.bind fun r => .ok (x :: r)) := by
  have h := ca_cons he hr hs
  unfold CAL
  have q : ((m.bind fun x => mr.bind fun r => M.ok (x :: r)).bind fun xs => M.ok (encL xs)) = m.bind fun x => (mr.bind fun xs => M.ok (encL xs)).bind fun r => M.ok (enc x :: r) := by
    cases m with
    | ok x => cases mr <;> rfl
    | _ => rfl
  rw [q]; exact h
theorem ce_tupL {es : List Expr} {x1} {pos : Pos} {m : M (List α)} (h : CAL c es Γ L m) (hl : ∀ xs, m = .ok xs → xs.length ≤ 1000) : CE c (.Tuple es x1 pos) Γ L (m.bind fun xs => .ok (Tup.mk xs)) := fun B G0 G H σ Q s p => by
  refine wpE_of (pe_tup pa_wp) ?_
  show wpA c.X es σ H fun xs H1 => xs.length ≤ sizeLine ∧ ∀ p, H1 p = none → Q (.ref p) (upd H1 p (.tup xs))
  cases m with
  | stuck => exact p.elim
  | raise z => exact h B G0 G H σ _ s p
  | ok xs =>
    refine h B G0 G H σ _ s fun vs G1 H1 e1 r => ⟨?_, tup_new (m := .ok (Tup.mk xs)) e1.gh r rfl (Pst.ext e1 p)⟩
    rw [r.length]; unfold encL; rw [List.length_map]
    exact Nat.le_of_lt (small1000 (hl xs rfl))
theorem cn_lst {es : List Expr} {pos : Pos} {m : M (List α)} (h : CAL c es Γ L m) (hl : ∀ xs, m = .ok xs → xs.length ≤ 1000) : CN c (.List es pos) Γ L m := fun B G0 G H σ Q s p => by
  refine wpE_of (pe_lst pa_wp) ?_
  show wpA c.X es σ H fun xs H1 => xs.length ≤ sizeLine ∧ ∀ p, H1 p = none → Q (.ref p) (upd H1 p (.lst xs))
  cases m with
  | stuck => exact p.elim
  | raise z => exact h B G0 G H σ _ s p
  | ok xs =>
    refine h B G0 G H σ _ s fun vs G1 H1 e1 r => ⟨?_, fun a ha => ?_⟩
    · rw [r.length]; unfold encL; rw [List.length_map]
      exact Nat.le_of_lt (small1000 (hl xs rfl))
    · exact p a vs G1 _ (e1.trans (Ext.newM e1.gh ha)) (e1.h.free ha) (e1.gh.free ha) upd_same r
theorem cn_nil {pos : Pos} : CN c (.List [] pos) Γ L (.ok ([] : List α)) := cn_lst cal_nil fun xs e => by cases e; exact Nat.zero_le _
end
end Pf

/-! P3: equality of data of any depth. -/
namespace Pf
open PySem PySem.Spec L2
open PyProof.Rows hiding St

namespace D
mutual
def eqv : D → D → Bool
  | .non, .non => true
  | .bl a, .bl b => a == b
  | .bl a, .int j => (if a then 1 else 0) == j
  | .int i, .bl b => i == (if b then 1 else 0)
  | .int i, .int j => i == j
  | .str x, .str y => x == y
  | .lst xs, .lst ys => eqvAll xs ys
  | .tup xs, .tup ys => eqvAll xs ys
  | .non, _ => false
  | .bl _, _ => false
  | .int _, _ => false
  | .str _, _ => false
  | .lst _, _ => false
  | .tup _, _ => false
  | .dK _ _, _ => false
  | .dT _ _, _ => false
  | .obj _ _ _, _ => false
  | .own _, _ => false
def eqvAll : List D → List D → Bool
  | [], [] => true
  | x :: xs, y :: ys => eqv x y && eqvAll xs ys
  | [], _ :: _ => false
  | _ :: _, [] => false
end
/-- plain: no dict, no object, no deeper than n -/
def pl : Nat → D → Bool
  | _, .non => true
  | _, .bl _ => true
  | _, .int _ => true
  | _, .str _ => true
  | n + 1, .lst xs => xs.all (pl n)
  | n + 1, .tup xs => xs.all (pl n)
  | _, _ => false
theorem eqvAll_len : ∀ {xs ys : List D}, eqvAll xs ys = true → xs.length = ys.length
  | [], [], _ => rfl
  | [], _ :: _, h => by simp [eqvAll] at h
  | _ :: _, [], h => by simp [eqvAll] at h
  | x :: xs, y :: ys, h => by
    simp only [eqvAll, Bool.and_eq_true] at h
    rw [List.length_cons, List.length_cons, eqvAll_len h.2]
theorem eqvAll_refl (f : ∀ d : D, d ∈ xs → eqv d d = true) : eqvAll xs xs = true := by
  induction xs with
  | nil => rfl
  | cons x xs ih =>
    simp only [eqvAll, Bool.and_eq_true]
    exact ⟨f x List.mem_cons_self, ih fun d h => f d (List.mem_cons_of_mem _ h)⟩
theorem eqv_refl : ∀ (n : Nat) (d : D), pl n d = true → eqv d d = true
  | _, .non, _ => rfl
  | _, .bl b, _ => by simp [eqv]
  | _, .int i, _ => by simp [eqv]
  | _, .str s, _ => by simp [eqv]
  | 0, .lst xs, h => by simp [pl] at h
  | 0, .tup xs, h => by simp [pl] at h
  | n + 1, .lst xs, h => by
    simp only [pl, List.all_eq_true] at h
    simp only [eqv]
    exact eqvAll_refl fun d hd => eqv_refl n d (h d hd)
  | n + 1, .tup xs, h => by
    simp only [pl, List.all_eq_true] at h
    simp only [eqv]
    exact eqvAll_refl fun d hd => eqv_refl n d (h d hd)
  | 0, .dK _ _, h => by simp [pl] at h
  | n + 1, .dK _ _, h => by simp [pl] at h
  | 0, .dT _ _, h => by simp [pl] at h
  | n + 1, .dT _ _, h => by simp [pl] at h
  | 0, .obj _ _ _, h => by simp [pl] at h
  | n + 1, .obj _ _ _, h => by simp [pl] at h
  | 0, .own _, h => by simp [pl] at h
  | n + 1, .own _, h => by simp [pl] at h
/-- the j-th ones are equal -/
def pairEq (xs ys : List D) (j : Nat) : Bool := match xs[j]?, ys[j]? with
  | some x, some y => eqv x y
  | _, _ => true
theorem eqvAll_eq : ∀ xs ys : List D, ((List.range (min xs.length ys.length)).all (pairEq xs ys) && xs.length == ys.length) = eqvAll xs ys
  | [], [] => rfl
  | [], _ :: _ => by simp [eqvAll]
  | _ :: _, [] => by simp [eqvAll]
  | x :: xs, y :: ys => by
    have ih := eqvAll_eq xs ys
    have e1 : min (x :: xs).length (y :: ys).length = min xs.length ys.length + 1 := by simp only [List.length_cons]; omega
    have e2 : ((x :: xs).length == (y :: ys).length) = (xs.length == ys.length) := by simp
    have e3 : (List.range (min xs.length ys.length + 1)).all (pairEq (x :: xs) (y :: ys)) = (eqv x y && (List.range (min xs.length ys.length)).all (pairEq xs ys)) := by
      rw [List.range_succ_eq_map, List.all_cons, List.all_map]
      first | rfl | simp [pairEq, Function.comp_def]
    rw [e1, e2, e3, eqvAll, ← ih, Bool.and_assoc]
theorem eqvAll_same {xs ys : List D} (h : xs.length = ys.length) : (List.range xs.length).all (pairEq xs ys) = eqvAll xs ys := by
  have := eqvAll_eq xs ys
  rw [← h, Nat.min_self] at this
  simpa using this
theorem eqvAll_other {xs ys : List D} (h : xs.length ≠ ys.length) : eqvAll xs ys = false := by
  rw [← eqvAll_eq xs ys]
  simp [h]
end D

section
variable {K : PySem.W.Frag} {cA : Str → Addr} {G : Hp}
theorem RpAll.one_of {R : D → Bool} (f : ∀ {v : V} {d e : D}, R d = true → R e = true → Rp K cA G v d → Rp K cA G v e → d = e) :
    ∀ {vs : List V} {ds es : List D}, (∀ d ∈ ds, R d = true) → (∀ d ∈ es, R d = true) → RpAll K cA G vs ds → RpAll K cA G vs es → ds = es
  | [], _, _, _, _, .nil, .nil => rfl
  | v :: vs, _, _, pd, pe, .cons r t, .cons r' t' => by
    rw [f (pd _ List.mem_cons_self) (pe _ List.mem_cons_self) r r', RpAll.one_of f (fun d h => pd d (List.mem_cons_of_mem _ h)) (fun d h => pe d (List.mem_cons_of_mem _ h)) t t']
/-- what plain data a value is, is known by the heap -/
theorem Rp.one (hl : ∀ {a : Addr} {xs ys : List V}, SqL K G a xs → SqL K G a ys → xs = ys) (ht : ∀ {a : Addr} {xs ys : List V}, SqT K G a xs → SqT K G a ys → xs = ys) (hn : ∀ {a : Addr} {xs ys : List V}, SqL K G a xs → SqT K G a ys → False)
    (n : Nat) : ∀ {v : V} {d e : D}, D.pl n d = true → D.pl n e = true → Rp K cA G v d → Rp K cA G v e → d = e := by
  induction n with
  | zero =>
    intro v d e pd pe r q
    cases r <;> first | (simp [D.pl] at pd; done) | (cases q; rfl)
  | succ n ih =>
    intro v d e pd pe r q
    cases r with
    | non => cases q; rfl
    | bl b => cases q; rfl
    | int i => cases q; rfl
    | str s => cases q; rfl
    | dK => simp [D.pl] at pd
    | dT => simp [D.pl] at pd
    | obj => simp [D.pl] at pd
    | own => simp [D.pl] at pd
    | lst h r =>
      cases q with
      | lst h' q' =>
        have e := hl h h'
        subst e
        simp only [D.pl, List.all_eq_true] at pd pe
        exact congrArg D.lst (RpAll.one_of ih pd pe r q')
      | tup h' _ => exact (hn h h').elim
      | dK => simp [D.pl] at pe
      | dT => simp [D.pl] at pe
      | obj => simp [D.pl] at pe
      | own => simp [D.pl] at pe
    | tup h r =>
      cases q with
      | tup h' q' =>
        have e := ht h h'
        subst e
        simp only [D.pl, List.all_eq_true] at pd pe
        exact congrArg D.tup (RpAll.one_of ih pd pe r q')
      | lst h' _ => exact (hn h' h).elim
      | dK => simp [D.pl] at pe
      | dT => simp [D.pl] at pe
      | obj => simp [D.pl] at pe
      | own => simp [D.pl] at pe
end

section
variable {X : Cx} {pins : List (Addr × Obj)} {σ : L2.St} {H G : Hp} {s : Shared} {cA : Str → Addr}
open PySem.SeqAt
theorem sl_of {K : PySem.W.Frag} {a : Addr} {xs : List V} (h : Rd H a (.lst xs)) : SqL K H a xs := .inl h
theorem seq_apart (I : Inv X pins σ H s) {a : Addr} {xs ys : List V} (h : SqL X.K H a xs) (h' : SqT X.K H a ys) : False := by
  obtain ⟨its, _, ⟨o, n, e, c, _⟩, _⟩ := I.list h
  obtain ⟨its', _, ⟨o', e', c', _⟩, _⟩ := I.tuple h'
  rw [e] at e'; cases e'
  rw [c] at c'
  simp at c'
/-- two values of plain data, compared by == as items are -/
theorem eqAt_pl (I : Inv X pins σ H s) (sg : Sub G H) (n : Nat) : ∀ {A : Around} {x y : V} {u v : Value} {d e : D}, RelV x u → RelV y v → Rp X.K cA G x d → Rp X.K cA G y e → D.pl n d = true → D.pl n e = true →
    A.units + n < cLine → EqAt A s u v (D.eqv d e) := by
  have hl : ∀ {a : Addr} {xs ys : List V}, SqL X.K G a xs → SqL X.K G a ys → xs = ys := fun h h' => I.list_inj (sg.sl h) (sg.sl h')
  have ht : ∀ {a : Addr} {xs ys : List V}, SqT X.K G a xs → SqT X.K G a ys → xs = ys := fun h h' => I.tuple_inj (sg.st h) (sg.st h')
  have hn : ∀ {a : Addr} {xs ys : List V}, SqL X.K G a xs → SqT X.K G a ys → False := fun h h' => seq_apart I (sg.sl h) (sg.st h')
  have isl : ∀ {a : Addr} {vs : List V}, SqL X.K G a vs → ∃ its : List Value, Vals vs its ∧ s.heap.IsList a its.toArray := fun h => by
    obtain ⟨its, r, p, _⟩ := I.list (sg.sl h); exact ⟨its, r, p.isList⟩
  have ist : ∀ {a : Addr} {vs : List V}, SqT X.K G a vs → ∃ its : List Value, Vals vs its ∧ s.heap.IsTuple a its.toArray := fun h => by
    obtain ⟨its, r, p, _⟩ := I.tuple (sg.st h); exact ⟨its, r, p⟩
  induction n with
  | zero =>
    intro A x y u v d e rx ry p q pd pe hu
    have hu : A.units < cLine := by omega
    cases p with
    | lst => simp [D.pl] at pd
    | tup => simp [D.pl] at pd
    | dK => simp [D.pl] at pd
    | dT => simp [D.pl] at pd
    | obj => simp [D.pl] at pd
    | own => simp [D.pl] at pd
    | non =>
      cases rx
      cases q with
      | lst => simp [D.pl] at pe
      | tup => simp [D.pl] at pe
      | dK => simp [D.pl] at pe
      | dT => simp [D.pl] at pe
      | obj => simp [D.pl] at pe
      | own => simp [D.pl] at pe
      | non => cases ry; exact EqAt.same _
      | bl b => cases ry; exact EqAt.none_bool b
      | int i => obtain ⟨t, rfl⟩ := ry; exact EqAt.none_int i t
      | str z => obtain ⟨t, rfl⟩ := ry; exact EqAt.none_str z t
    | bl a =>
      cases rx
      cases q with
      | lst => simp [D.pl] at pe
      | tup => simp [D.pl] at pe
      | dK => simp [D.pl] at pe
      | dT => simp [D.pl] at pe
      | obj => simp [D.pl] at pe
      | own => simp [D.pl] at pe
      | non => cases ry; exact EqAt.bool_none a
      | bl b => cases ry; exact EqAt.bool_bool a b
      | int i => obtain ⟨t, rfl⟩ := ry; exact EqAt.bool_int a i t
      | str z => obtain ⟨t, rfl⟩ := ry; exact EqAt.bool_str a z t
    | int a =>
      obtain ⟨ta, rfl⟩ := rx
      cases q with
      | lst => simp [D.pl] at pe
      | tup => simp [D.pl] at pe
      | dK => simp [D.pl] at pe
      | dT => simp [D.pl] at pe
      | obj => simp [D.pl] at pe
      | own => simp [D.pl] at pe
      | non => cases ry; exact EqAt.int_none a ta
      | bl b => cases ry; exact EqAt.int_bool a ta b
      | int i => obtain ⟨t, rfl⟩ := ry; exact EqAt.int_int a ta i t
      | str z => obtain ⟨t, rfl⟩ := ry; exact EqAt.int_str a ta z t
    | str a =>
      obtain ⟨ta, rfl⟩ := rx
      cases q with
      | lst => simp [D.pl] at pe
      | tup => simp [D.pl] at pe
      | dK => simp [D.pl] at pe
      | dT => simp [D.pl] at pe
      | obj => simp [D.pl] at pe
      | own => simp [D.pl] at pe
      | non => cases ry; exact EqAt.str_none a ta
      | bl b => cases ry; exact EqAt.str_bool a ta b
      | int i => obtain ⟨t, rfl⟩ := ry; exact EqAt.str_int a ta i t
      | str z => obtain ⟨t, rfl⟩ := ry; exact EqAt.str_str a ta z t
  | succ n ih =>
    intro A x y u v d e rx ry p q pd pe hu
    have hu0 : A.units < cLine := by omega
    have hu1 : A.in1.units + n < cLine := by show A.units + 1 + n < cLine; omega
    cases p with
    | dK => simp [D.pl] at pd
    | dT => simp [D.pl] at pd
    | obj => simp [D.pl] at pd
    | own => simp [D.pl] at pd
    | non =>
      cases rx
      cases q with
      | lst h _ => cases ry; obtain ⟨_, _, k⟩ := isl h; exact EqAt.none_list k hu0
      | tup h _ => cases ry; obtain ⟨_, _, k⟩ := ist h; exact EqAt.none_tuple k hu0
      | dK => simp [D.pl] at pe
      | dT => simp [D.pl] at pe
      | obj => simp [D.pl] at pe
      | own => simp [D.pl] at pe
      | non => cases ry; exact EqAt.same _
      | bl b => cases ry; exact EqAt.none_bool b
      | int i => obtain ⟨t, rfl⟩ := ry; exact EqAt.none_int i t
      | str z => obtain ⟨t, rfl⟩ := ry; exact EqAt.none_str z t
    | bl a =>
      cases rx
      cases q with
      | lst h _ => cases ry; obtain ⟨_, _, k⟩ := isl h; exact EqAt.bool_list a k hu0
      | tup h _ => cases ry; obtain ⟨_, _, k⟩ := ist h; exact EqAt.bool_tuple a k hu0
      | dK => simp [D.pl] at pe
      | dT => simp [D.pl] at pe
      | obj => simp [D.pl] at pe
      | own => simp [D.pl] at pe
      | non => cases ry; exact EqAt.bool_none a
      | bl b => cases ry; exact EqAt.bool_bool a b
      | int i => obtain ⟨t, rfl⟩ := ry; exact EqAt.bool_int a i t
      | str z => obtain ⟨t, rfl⟩ := ry; exact EqAt.bool_str a z t
    | int a =>
      obtain ⟨ta, rfl⟩ := rx
      cases q with
      | lst h _ => cases ry; obtain ⟨_, _, k⟩ := isl h; exact EqAt.int_list a ta k hu0
      | tup h _ => cases ry; obtain ⟨_, _, k⟩ := ist h; exact EqAt.int_tuple a ta k hu0
      | dK => simp [D.pl] at pe
      | dT => simp [D.pl] at pe
      | obj => simp [D.pl] at pe
      | own => simp [D.pl] at pe
      | non => cases ry; exact EqAt.int_none a ta
      | bl b => cases ry; exact EqAt.int_bool a ta b
      | int i => obtain ⟨t, rfl⟩ := ry; exact EqAt.int_int a ta i t
      | str z => obtain ⟨t, rfl⟩ := ry; exact EqAt.int_str a ta z t
    | str a =>
      obtain ⟨ta, rfl⟩ := rx
      cases q with
      | lst h _ => cases ry; obtain ⟨_, _, k⟩ := isl h; exact EqAt.str_list a ta k hu0
      | tup h _ => cases ry; obtain ⟨_, _, k⟩ := ist h; exact EqAt.str_tuple a ta k hu0
      | dK => simp [D.pl] at pe
      | dT => simp [D.pl] at pe
      | obj => simp [D.pl] at pe
      | own => simp [D.pl] at pe
      | non => cases ry; exact EqAt.str_none a ta
      | bl b => cases ry; exact EqAt.str_bool a ta b
      | int i => obtain ⟨t, rfl⟩ := ry; exact EqAt.str_int a ta i t
      | str z => obtain ⟨t, rfl⟩ := ry; exact EqAt.str_str a ta z t
    | @lst la lvs xs h rh =>
      cases rx
      obtain ⟨its, rv, k⟩ := isl h
      cases q with
      | dK => simp [D.pl] at pe
      | dT => simp [D.pl] at pe
      | obj => simp [D.pl] at pe
      | own => simp [D.pl] at pe
      | non => cases ry; exact EqAt.list_none k hu0
      | bl b => cases ry; exact EqAt.list_bool b k hu0
      | int i => obtain ⟨t, rfl⟩ := ry; exact EqAt.list_int i t k hu0
      | str z => obtain ⟨t, rfl⟩ := ry; exact EqAt.list_str z t k hu0
      | tup h' _ => cases ry; obtain ⟨_, _, k'⟩ := ist h'; exact EqAt.list_tuple k k' hu0
      | @lst lb lws ys h' rh' =>
        cases ry
        obtain ⟨its', rv', k'⟩ := isl h'
        by_cases hab : la = lb
        · subst hab
          have e := Rp.one hl ht hn (n + 1) pd pe (.lst h rh) (.lst h' rh')
          rw [← e, D.eqv_refl (n + 1) _ pd]
          exact EqAt.same _
        · simp only [D.pl, List.all_eq_true] at pd pe
          have n1 : its.length = xs.length := by rw [← rv.length, rh.length]
          have n2 : its'.length = ys.length := by rw [← rv'.length, rh'.length]
          simp only [D.eqv]
          have item : ∀ j (j1 : j < its.toArray.size) (j2 : j < its'.toArray.size), EqAt A.in1 s its.toArray[j] its'.toArray[j] (D.pairEq xs ys j) := fun j j1 j2 => by
            have i1 : j < xs.length := by rw [← n1]; simpa using j1
            have i2 : j < ys.length := by rw [← n2]; simpa using j2
            obtain ⟨a, ea, ra⟩ := rh.get (List.getElem?_eq_getElem i1)
            obtain ⟨b, eb, rb⟩ := rh'.get (List.getElem?_eq_getElem i2)
            obtain ⟨u, eu, ru⟩ := rv.get ea
            obtain ⟨w', ew, rw'⟩ := rv'.get eb
            have z1 : its.toArray[j] = u := by
              have := (List.getElem?_eq_some_iff.mp eu).2; simpa using this
            have z2 : its'.toArray[j] = w' := by
              have := (List.getElem?_eq_some_iff.mp ew).2; simpa using this
            have hp : D.pairEq xs ys j = D.eqv xs[j] ys[j] := by unfold D.pairEq; rw [List.getElem?_eq_getElem i1, List.getElem?_eq_getElem i2]
            rw [z1, z2, hp]
            exact ih ru rw' ra rb (pd _ (List.getElem_mem i1)) (pe _ (List.getElem_mem i2)) hu1
          by_cases hsz : its.length = its'.length
          · rw [← D.eqvAll_same (show xs.length = ys.length by omega), ← n1]
            have := EqAt.of_refs hab (RcAt.lists k k' (by simpa using hsz) hu0 item)
            simpa using this
          · rw [D.eqvAll_other (by omega)]
            exact EqAt.of_refs hab (RcAt.lists_lengths k k' (by simpa using hsz) hu0)
    | @tup la lvs xs h rh =>
      cases rx
      obtain ⟨its, rv, k⟩ := ist h
      cases q with
      | dK => simp [D.pl] at pe
      | dT => simp [D.pl] at pe
      | obj => simp [D.pl] at pe
      | own => simp [D.pl] at pe
      | non => cases ry; exact EqAt.tuple_none k hu0
      | bl b => cases ry; exact EqAt.tuple_bool b k hu0
      | int i => obtain ⟨t, rfl⟩ := ry; exact EqAt.tuple_int i t k hu0
      | str z => obtain ⟨t, rfl⟩ := ry; exact EqAt.tuple_str z t k hu0
      | lst h' _ => cases ry; obtain ⟨_, _, k'⟩ := isl h'; exact EqAt.tuple_list k k' hu0
      | @tup lb lws ys h' rh' =>
        cases ry
        obtain ⟨its', rv', k'⟩ := ist h'
        by_cases hab : la = lb
        · subst hab
          have e := Rp.one hl ht hn (n + 1) pd pe (.tup h rh) (.tup h' rh')
          rw [← e, D.eqv_refl (n + 1) _ pd]
          exact EqAt.same _
        · simp only [D.pl, List.all_eq_true] at pd pe
          have n1 : its.length = xs.length := by rw [← rv.length, rh.length]
          have n2 : its'.length = ys.length := by rw [← rv'.length, rh'.length]
          simp only [D.eqv]
          have item : ∀ j (j1 : j < its.toArray.size) (j2 : j < its'.toArray.size), EqAt A.in1 s its.toArray[j] its'.toArray[j] (D.pairEq xs ys j) := fun j j1 j2 => by
            have i1 : j < xs.length := by rw [← n1]; simpa using j1
            have i2 : j < ys.length := by rw [← n2]; simpa using j2
            obtain ⟨a, ea, ra⟩ := rh.get (List.getElem?_eq_getElem i1)
            obtain ⟨b, eb, rb⟩ := rh'.get (List.getElem?_eq_getElem i2)
            obtain ⟨u, eu, ru⟩ := rv.get ea
            obtain ⟨w', ew, rw'⟩ := rv'.get eb
            have z1 : its.toArray[j] = u := by
              have := (List.getElem?_eq_some_iff.mp eu).2; simpa using this
            have z2 : its'.toArray[j] = w' := by
              have := (List.getElem?_eq_some_iff.mp ew).2; simpa using this
            have hp : D.pairEq xs ys j = D.eqv xs[j] ys[j] := by unfold D.pairEq; rw [List.getElem?_eq_getElem i1, List.getElem?_eq_getElem i2]
            rw [z1, z2, hp]
            exact ih ru rw' ra rb (pd _ (List.getElem_mem i1)) (pe _ (List.getElem_mem i2)) hu1
          rw [← D.eqvAll_eq xs ys, ← n1, ← n2]
          have := EqAt.of_refs hab (RcAt.tuples k k' hu0 item)
          simpa using this
/-- two values of plain data, compared by == -/
theorem rcAt_pl (I : Inv X pins σ H s) (sg : Sub G H) (n : Nat) {A : Around} {x y : V} {u v : Value} {d e : D} (rx : RelV x u) (ry : RelV y v) (p : Rp X.K cA G x d) (q : Rp X.K cA G y e) (pd : D.pl n d = true) (pe : D.pl n e = true)
    (hu : A.units + n < cLine) : RcAt A s u v (D.eqv d e) := by
  have isl : ∀ {a : Addr} {vs : List V}, SqL X.K G a vs → ∃ its : List Value, Vals vs its ∧ s.heap.IsList a its.toArray := fun h => by
    obtain ⟨its, r, p, _⟩ := I.list (sg.sl h); exact ⟨its, r, p.isList⟩
  have ist : ∀ {a : Addr} {vs : List V}, SqT X.K G a vs → ∃ its : List Value, Vals vs its ∧ s.heap.IsTuple a its.toArray := fun h => by
    obtain ⟨its, r, p, _⟩ := I.tuple (sg.st h); exact ⟨its, r, p⟩
  have hu0 : A.units < cLine := by omega
  cases p with
  | dK => cases n <;> simp [D.pl] at pd
  | dT => cases n <;> simp [D.pl] at pd
  | obj => cases n <;> simp [D.pl] at pd
  | own => cases n <;> simp [D.pl] at pd
  | non =>
    cases rx
    cases q with
    | dK => cases n <;> simp [D.pl] at pe
    | dT => cases n <;> simp [D.pl] at pe
    | obj => cases n <;> simp [D.pl] at pe
    | own => cases n <;> simp [D.pl] at pe
    | non => cases ry; exact RcAt.none_none 
    | bl b => cases ry; exact RcAt.none_bool b
    | int b => obtain ⟨t, rfl⟩ := ry; exact RcAt.none_int b t
    | str b => obtain ⟨t, rfl⟩ := ry; exact RcAt.none_str b t
    | lst h _ => cases ry; obtain ⟨_, _, k⟩ := isl h; exact RcAt.none_list k hu0
    | tup h _ => cases ry; obtain ⟨_, _, k⟩ := ist h; exact RcAt.none_tuple k hu0
  | bl a =>
    cases rx
    cases q with
    | dK => cases n <;> simp [D.pl] at pe
    | dT => cases n <;> simp [D.pl] at pe
    | obj => cases n <;> simp [D.pl] at pe
    | own => cases n <;> simp [D.pl] at pe
    | non => cases ry; exact RcAt.bool_none a 
    | bl b => cases ry; exact RcAt.bool_bool a b
    | int b => obtain ⟨t, rfl⟩ := ry; exact RcAt.bool_int a b t
    | str b => obtain ⟨t, rfl⟩ := ry; exact RcAt.bool_str a b t
    | lst h _ => cases ry; obtain ⟨_, _, k⟩ := isl h; exact RcAt.bool_list a k hu0
    | tup h _ => cases ry; obtain ⟨_, _, k⟩ := ist h; exact RcAt.bool_tuple a k hu0
  | int a =>
    obtain ⟨ta, rfl⟩ := rx
    cases q with
    | dK => cases n <;> simp [D.pl] at pe
    | dT => cases n <;> simp [D.pl] at pe
    | obj => cases n <;> simp [D.pl] at pe
    | own => cases n <;> simp [D.pl] at pe
    | non => cases ry; exact RcAt.int_none a ta 
    | bl b => cases ry; exact RcAt.int_bool a ta b
    | int b => obtain ⟨t, rfl⟩ := ry; exact RcAt.int_int a ta b t
    | str b => obtain ⟨t, rfl⟩ := ry; exact RcAt.int_str a ta b t
    | lst h _ => cases ry; obtain ⟨_, _, k⟩ := isl h; exact RcAt.int_list a ta k hu0
    | tup h _ => cases ry; obtain ⟨_, _, k⟩ := ist h; exact RcAt.int_tuple a ta k hu0
  | str a =>
    obtain ⟨ta, rfl⟩ := rx
    cases q with
    | dK => cases n <;> simp [D.pl] at pe
    | dT => cases n <;> simp [D.pl] at pe
    | obj => cases n <;> simp [D.pl] at pe
    | own => cases n <;> simp [D.pl] at pe
    | non => cases ry; exact RcAt.str_none a ta 
    | bl b => cases ry; exact RcAt.str_bool a ta b
    | int b => obtain ⟨t, rfl⟩ := ry; exact RcAt.str_int a ta b t
    | str b => obtain ⟨t, rfl⟩ := ry; exact RcAt.str_str a ta b t
    | lst h _ => cases ry; obtain ⟨_, _, k⟩ := isl h; exact RcAt.str_list a ta k hu0
    | tup h _ => cases ry; obtain ⟨_, _, k⟩ := ist h; exact RcAt.str_tuple a ta k hu0
  | @lst la lvs xs h rh =>
    cases rx
    obtain ⟨its, rv, k⟩ := isl h
    cases q with
    | dK => cases n <;> simp [D.pl] at pe
    | dT => cases n <;> simp [D.pl] at pe
    | obj => cases n <;> simp [D.pl] at pe
    | own => cases n <;> simp [D.pl] at pe
    | non => cases ry; exact RcAt.list_none k hu0
    | bl b => cases ry; exact RcAt.list_bool b k hu0
    | int i => obtain ⟨t, rfl⟩ := ry; exact RcAt.list_int i t k hu0
    | str z => obtain ⟨t, rfl⟩ := ry; exact RcAt.list_str z t k hu0
    | tup h' _ => cases ry; obtain ⟨_, _, k'⟩ := ist h'; exact RcAt.list_tuple k k' hu0
    | @lst lb lws ys h' rh' =>
      cases ry
      obtain ⟨its', rv', k'⟩ := isl h'
      cases n with
      | zero => simp [D.pl] at pd
      | succ n =>
      have hu1 : A.in1.units + n < cLine := by show A.units + 1 + n < cLine; omega
      simp only [D.pl, List.all_eq_true] at pd pe
      have n1 : its.length = xs.length := by rw [← rv.length, rh.length]
      have n2 : its'.length = ys.length := by rw [← rv'.length, rh'.length]
      simp only [D.eqv]
      have item : ∀ j (j1 : j < its.toArray.size) (j2 : j < its'.toArray.size), EqAt A.in1 s its.toArray[j] its'.toArray[j] (D.pairEq xs ys j) := fun j j1 j2 => by
        have i1 : j < xs.length := by rw [← n1]; simpa using j1
        have i2 : j < ys.length := by rw [← n2]; simpa using j2
        obtain ⟨a, ea, ra⟩ := rh.get (List.getElem?_eq_getElem i1)
        obtain ⟨b, eb, rb⟩ := rh'.get (List.getElem?_eq_getElem i2)
        obtain ⟨u, eu, ru⟩ := rv.get ea
        obtain ⟨w', ew, rw'⟩ := rv'.get eb
        have z1 : its.toArray[j] = u := by
          have := (List.getElem?_eq_some_iff.mp eu).2; simpa using this
        have z2 : its'.toArray[j] = w' := by
          have := (List.getElem?_eq_some_iff.mp ew).2; simpa using this
        have hp : D.pairEq xs ys j = D.eqv xs[j] ys[j] := by unfold D.pairEq; rw [List.getElem?_eq_getElem i1, List.getElem?_eq_getElem i2]
        rw [z1, z2, hp]
        exact eqAt_pl I sg n ru rw' ra rb (pd _ (List.getElem_mem i1)) (pe _ (List.getElem_mem i2)) hu1
      by_cases hsz : its.length = its'.length
      · rw [← D.eqvAll_same (show xs.length = ys.length by omega), ← n1]
        have := RcAt.lists k k' (by simpa using hsz) hu0 item
        simpa using this
      · rw [D.eqvAll_other (by omega)]
        exact RcAt.lists_lengths k k' (by simpa using hsz) hu0
  | @tup la lvs xs h rh =>
    cases rx
    obtain ⟨its, rv, k⟩ := ist h
    cases q with
    | dK => cases n <;> simp [D.pl] at pe
    | dT => cases n <;> simp [D.pl] at pe
    | obj => cases n <;> simp [D.pl] at pe
    | own => cases n <;> simp [D.pl] at pe
    | non => cases ry; exact RcAt.tuple_none k hu0
    | bl b => cases ry; exact RcAt.tuple_bool b k hu0
    | int i => obtain ⟨t, rfl⟩ := ry; exact RcAt.tuple_int i t k hu0
    | str z => obtain ⟨t, rfl⟩ := ry; exact RcAt.tuple_str z t k hu0
    | lst h' _ => cases ry; obtain ⟨_, _, k'⟩ := isl h'; exact RcAt.tuple_list k k' hu0
    | @tup lb lws ys h' rh' =>
      cases ry
      obtain ⟨its', rv', k'⟩ := ist h'
      cases n with
      | zero => simp [D.pl] at pd
      | succ n =>
      have hu1 : A.in1.units + n < cLine := by show A.units + 1 + n < cLine; omega
      simp only [D.pl, List.all_eq_true] at pd pe
      have n1 : its.length = xs.length := by rw [← rv.length, rh.length]
      have n2 : its'.length = ys.length := by rw [← rv'.length, rh'.length]
      simp only [D.eqv]
      have item : ∀ j (j1 : j < its.toArray.size) (j2 : j < its'.toArray.size), EqAt A.in1 s its.toArray[j] its'.toArray[j] (D.pairEq xs ys j) := fun j j1 j2 => by
        have i1 : j < xs.length := by rw [← n1]; simpa using j1
        have i2 : j < ys.length := by rw [← n2]; simpa using j2
        obtain ⟨a, ea, ra⟩ := rh.get (List.getElem?_eq_getElem i1)
        obtain ⟨b, eb, rb⟩ := rh'.get (List.getElem?_eq_getElem i2)
        obtain ⟨u, eu, ru⟩ := rv.get ea
        obtain ⟨w', ew, rw'⟩ := rv'.get eb
        have z1 : its.toArray[j] = u := by
          have := (List.getElem?_eq_some_iff.mp eu).2; simpa using this
        have z2 : its'.toArray[j] = w' := by
          have := (List.getElem?_eq_some_iff.mp ew).2; simpa using this
        have hp : D.pairEq xs ys j = D.eqv xs[j] ys[j] := by unfold D.pairEq; rw [List.getElem?_eq_getElem i1, List.getElem?_eq_getElem i2]
        rw [z1, z2, hp]
        exact eqAt_pl I sg n ru rw' ra rb (pd _ (List.getElem_mem i1)) (pe _ (List.getElem_mem i2)) hu1
      rw [← D.eqvAll_eq xs ys, ← n1, ← n2]
      have := RcAt.tuples k k' hu0 item
      simpa using this
/-- two values of plain data, compared by != -/
theorem rcNeAt_pl (I : Inv X pins σ H s) (sg : Sub G H) (n : Nat) {A : Around} {x y : V} {u v : Value} {d e : D} (rx : RelV x u) (ry : RelV y v) (p : Rp X.K cA G x d) (q : Rp X.K cA G y e) (pd : D.pl n d = true) (pe : D.pl n e = true)
    (hu : A.units + n < cLine) : RcNeAt A s u v (!D.eqv d e) := by
  have isl : ∀ {a : Addr} {vs : List V}, SqL X.K G a vs → ∃ its : List Value, Vals vs its ∧ s.heap.IsList a its.toArray := fun h => by
    obtain ⟨its, r, p, _⟩ := I.list (sg.sl h); exact ⟨its, r, p.isList⟩
  have ist : ∀ {a : Addr} {vs : List V}, SqT X.K G a vs → ∃ its : List Value, Vals vs its ∧ s.heap.IsTuple a its.toArray := fun h => by
    obtain ⟨its, r, p, _⟩ := I.tuple (sg.st h); exact ⟨its, r, p⟩
  have hu0 : A.units < cLine := by omega
  cases p with
  | dK => cases n <;> simp [D.pl] at pd
  | dT => cases n <;> simp [D.pl] at pd
  | obj => cases n <;> simp [D.pl] at pd
  | own => cases n <;> simp [D.pl] at pd
  | non =>
    cases rx
    cases q with
    | dK => cases n <;> simp [D.pl] at pe
    | dT => cases n <;> simp [D.pl] at pe
    | obj => cases n <;> simp [D.pl] at pe
    | own => cases n <;> simp [D.pl] at pe
    | non => cases ry; exact RcNeAt.none_none 
    | bl b => cases ry; exact RcNeAt.none_bool b
    | int b => obtain ⟨t, rfl⟩ := ry; exact RcNeAt.none_int b t
    | str b => obtain ⟨t, rfl⟩ := ry; exact RcNeAt.none_str b t
    | lst h _ => cases ry; obtain ⟨_, _, k⟩ := isl h; exact RcNeAt.none_list k hu0
    | tup h _ => cases ry; obtain ⟨_, _, k⟩ := ist h; exact RcNeAt.none_tuple k hu0
  | bl a =>
    cases rx
    cases q with
    | dK => cases n <;> simp [D.pl] at pe
    | dT => cases n <;> simp [D.pl] at pe
    | obj => cases n <;> simp [D.pl] at pe
    | own => cases n <;> simp [D.pl] at pe
    | non => cases ry; exact RcNeAt.bool_none a 
    | bl b => cases ry; exact RcNeAt.bool_bool a b
    | int b => obtain ⟨t, rfl⟩ := ry; exact RcNeAt.bool_int a b t
    | str b => obtain ⟨t, rfl⟩ := ry; exact RcNeAt.bool_str a b t
    | lst h _ => cases ry; obtain ⟨_, _, k⟩ := isl h; exact RcNeAt.bool_list a k hu0
    | tup h _ => cases ry; obtain ⟨_, _, k⟩ := ist h; exact RcNeAt.bool_tuple a k hu0
  | int a =>
    obtain ⟨ta, rfl⟩ := rx
    cases q with
    | dK => cases n <;> simp [D.pl] at pe
    | dT => cases n <;> simp [D.pl] at pe
    | obj => cases n <;> simp [D.pl] at pe
    | own => cases n <;> simp [D.pl] at pe
    | non => cases ry; exact RcNeAt.int_none a ta 
    | bl b => cases ry; exact RcNeAt.int_bool a ta b
    | int b => obtain ⟨t, rfl⟩ := ry; exact RcNeAt.int_int a ta b t
    | str b => obtain ⟨t, rfl⟩ := ry; exact RcNeAt.int_str a ta b t
    | lst h _ => cases ry; obtain ⟨_, _, k⟩ := isl h; exact RcNeAt.int_list a ta k hu0
    | tup h _ => cases ry; obtain ⟨_, _, k⟩ := ist h; exact RcNeAt.int_tuple a ta k hu0
  | str a =>
    obtain ⟨ta, rfl⟩ := rx
    cases q with
    | dK => cases n <;> simp [D.pl] at pe
    | dT => cases n <;> simp [D.pl] at pe
    | obj => cases n <;> simp [D.pl] at pe
    | own => cases n <;> simp [D.pl] at pe
    | non => cases ry; exact RcNeAt.str_none a ta 
    | bl b => cases ry; exact RcNeAt.str_bool a ta b
    | int b => obtain ⟨t, rfl⟩ := ry; exact RcNeAt.str_int a ta b t
    | str b => obtain ⟨t, rfl⟩ := ry; exact RcNeAt.str_str a ta b t
    | lst h _ => cases ry; obtain ⟨_, _, k⟩ := isl h; exact RcNeAt.str_list a ta k hu0
    | tup h _ => cases ry; obtain ⟨_, _, k⟩ := ist h; exact RcNeAt.str_tuple a ta k hu0
  | @lst la lvs xs h rh =>
    cases rx
    obtain ⟨its, rv, k⟩ := isl h
    cases q with
    | dK => cases n <;> simp [D.pl] at pe
    | dT => cases n <;> simp [D.pl] at pe
    | obj => cases n <;> simp [D.pl] at pe
    | own => cases n <;> simp [D.pl] at pe
    | non => cases ry; exact RcNeAt.list_none k hu0
    | bl b => cases ry; exact RcNeAt.list_bool b k hu0
    | int i => obtain ⟨t, rfl⟩ := ry; exact RcNeAt.list_int i t k hu0
    | str z => obtain ⟨t, rfl⟩ := ry; exact RcNeAt.list_str z t k hu0
    | tup h' _ => cases ry; obtain ⟨_, _, k'⟩ := ist h'; exact RcNeAt.list_tuple k k' hu0
    | @lst lb lws ys h' rh' =>
      cases ry
      obtain ⟨its', rv', k'⟩ := isl h'
      cases n with
      | zero => simp [D.pl] at pd
      | succ n =>
      have hu1 : A.in1.units + n < cLine := by show A.units + 1 + n < cLine; omega
      simp only [D.pl, List.all_eq_true] at pd pe
      have n1 : its.length = xs.length := by rw [← rv.length, rh.length]
      have n2 : its'.length = ys.length := by rw [← rv'.length, rh'.length]
      simp only [D.eqv]
      have item : ∀ j (j1 : j < its.toArray.size) (j2 : j < its'.toArray.size), EqAt A.in1 s its.toArray[j] its'.toArray[j] (D.pairEq xs ys j) := fun j j1 j2 => by
        have i1 : j < xs.length := by rw [← n1]; simpa using j1
        have i2 : j < ys.length := by rw [← n2]; simpa using j2
        obtain ⟨a, ea, ra⟩ := rh.get (List.getElem?_eq_getElem i1)
        obtain ⟨b, eb, rb⟩ := rh'.get (List.getElem?_eq_getElem i2)
        obtain ⟨u, eu, ru⟩ := rv.get ea
        obtain ⟨w', ew, rw'⟩ := rv'.get eb
        have z1 : its.toArray[j] = u := by
          have := (List.getElem?_eq_some_iff.mp eu).2; simpa using this
        have z2 : its'.toArray[j] = w' := by
          have := (List.getElem?_eq_some_iff.mp ew).2; simpa using this
        have hp : D.pairEq xs ys j = D.eqv xs[j] ys[j] := by unfold D.pairEq; rw [List.getElem?_eq_getElem i1, List.getElem?_eq_getElem i2]
        rw [z1, z2, hp]
        exact eqAt_pl I sg n ru rw' ra rb (pd _ (List.getElem_mem i1)) (pe _ (List.getElem_mem i2)) hu1
      by_cases hsz : its.length = its'.length
      · rw [← D.eqvAll_same (show xs.length = ys.length by omega), ← n1]
        have := RcNeAt.lists k k' (by simpa using hsz) hu0 item
        simpa using this
      · rw [D.eqvAll_other (by omega)]
        exact RcNeAt.lists_lengths k k' (by simpa using hsz) hu0
  | @tup la lvs xs h rh =>
    cases rx
    obtain ⟨its, rv, k⟩ := ist h
    cases q with
    | dK => cases n <;> simp [D.pl] at pe
    | dT => cases n <;> simp [D.pl] at pe
    | obj => cases n <;> simp [D.pl] at pe
    | own => cases n <;> simp [D.pl] at pe
    | non => cases ry; exact RcNeAt.tuple_none k hu0
    | bl b => cases ry; exact RcNeAt.tuple_bool b k hu0
    | int i => obtain ⟨t, rfl⟩ := ry; exact RcNeAt.tuple_int i t k hu0
    | str z => obtain ⟨t, rfl⟩ := ry; exact RcNeAt.tuple_str z t k hu0
    | lst h' _ => cases ry; obtain ⟨_, _, k'⟩ := isl h'; exact RcNeAt.tuple_list k k' hu0
    | @tup lb lws ys h' rh' =>
      cases ry
      obtain ⟨its', rv', k'⟩ := ist h'
      cases n with
      | zero => simp [D.pl] at pd
      | succ n =>
      have hu1 : A.in1.units + n < cLine := by show A.units + 1 + n < cLine; omega
      simp only [D.pl, List.all_eq_true] at pd pe
      have n1 : its.length = xs.length := by rw [← rv.length, rh.length]
      have n2 : its'.length = ys.length := by rw [← rv'.length, rh'.length]
      simp only [D.eqv]
      have item : ∀ j (j1 : j < its.toArray.size) (j2 : j < its'.toArray.size), EqAt A.in1 s its.toArray[j] its'.toArray[j] (D.pairEq xs ys j) := fun j j1 j2 => by
        have i1 : j < xs.length := by rw [← n1]; simpa using j1
        have i2 : j < ys.length := by rw [← n2]; simpa using j2
        obtain ⟨a, ea, ra⟩ := rh.get (List.getElem?_eq_getElem i1)
        obtain ⟨b, eb, rb⟩ := rh'.get (List.getElem?_eq_getElem i2)
        obtain ⟨u, eu, ru⟩ := rv.get ea
        obtain ⟨w', ew, rw'⟩ := rv'.get eb
        have z1 : its.toArray[j] = u := by
          have := (List.getElem?_eq_some_iff.mp eu).2; simpa using this
        have z2 : its'.toArray[j] = w' := by
          have := (List.getElem?_eq_some_iff.mp ew).2; simpa using this
        have hp : D.pairEq xs ys j = D.eqv xs[j] ys[j] := by unfold D.pairEq; rw [List.getElem?_eq_getElem i1, List.getElem?_eq_getElem i2]
        rw [z1, z2, hp]
        exact eqAt_pl I sg n ru rw' ra rb (pd _ (List.getElem_mem i1)) (pe _ (List.getElem_mem i2)) hu1
      rw [← D.eqvAll_eq xs ys, ← n1, ← n2]
      have := RcNeAt.tuples k k' hu0 item
      simpa using this
end

/-! ### types of plain data -/
class Pl (α : Type) [Enc α] [DecidableEq α] where
  dep : Nat
  pl : ∀ x : α, D.pl dep (enc x) = true
  eqv : ∀ x y : α, D.eqv (enc x) (enc y) = decide (x = y)
theorem D.pl_mono {n : Nat} : ∀ {m : Nat} {d : D}, n ≤ m → D.pl n d = true → D.pl m d = true := by
  induction n with
  | zero =>
    intro m d _ h
    cases d <;> first | (simp [D.pl] at h; done) | (cases m <;> rfl)
  | succ n ih =>
    intro m d hm h
    obtain ⟨k, rfl⟩ : ∃ k, m = k + 1 := ⟨m - 1, by omega⟩
    cases d with
    | lst xs => simp only [D.pl, List.all_eq_true] at h ⊢; exact fun x hx => ih (by omega) (h x hx)
    | tup xs => simp only [D.pl, List.all_eq_true] at h ⊢; exact fun x hx => ih (by omega) (h x hx)
    | dK => simp [D.pl] at h
    | dT => simp [D.pl] at h
    | obj => simp [D.pl] at h
    | own => simp [D.pl] at h
    | non => rfl
    | bl => rfl
    | int => rfl
    | str => rfl
instance : Pl Int := ⟨0, fun _ => rfl, fun x y => by show (x == y) = _; rw [Bool.beq_eq_decide_eq]⟩
instance : Pl Bool := ⟨0, fun _ => rfl, fun x y => by show (x == y) = _; rw [Bool.beq_eq_decide_eq]⟩
instance : Pl Str := ⟨0, fun _ => rfl, fun x y => by show (x == y) = _; rw [Bool.beq_eq_decide_eq]⟩
instance : Pl Unit := ⟨0, fun _ => rfl, fun x y => rfl⟩
section
variable {α β γ δ ε : Type} [Enc α] [Enc β] [Enc γ] [Enc δ] [Enc ε] [DecidableEq α] [DecidableEq β] [DecidableEq γ] [DecidableEq δ] [DecidableEq ε] [Pl α] [Pl β] [Pl γ] [Pl δ] [Pl ε]
theorem plAll (xs : List α) : (encL xs).all (D.pl (Pl.dep α)) = true := by
  unfold encL
  rw [List.all_map, List.all_eq_true]
  exact fun x _ => Pl.pl x
theorem eqvAll_enc : ∀ xs ys : List α, D.eqvAll (encL xs) (encL ys) = decide (xs = ys)
  | [], [] => rfl
  | [], _ :: _ => rfl
  | _ :: _, [] => rfl
  | x :: xs, y :: ys => by
    show (D.eqv (enc x) (enc y) && D.eqvAll (encL xs) (encL ys)) = _
    rw [Pl.eqv, eqvAll_enc xs ys]
    by_cases h : x = y
    · by_cases h2 : xs = ys
      · rw [h, h2]; simp
      · rw [decide_eq_true h, decide_eq_false h2, decide_eq_false (fun z => h2 (List.cons.inj z).2)]; rfl
    · rw [decide_eq_false h, decide_eq_false (fun z => h (List.cons.inj z).1)]; rfl
instance : Pl (List α) := ⟨Pl.dep α + 1, fun xs => plAll xs, fun xs ys => eqvAll_enc xs ys⟩
instance : Pl (Tup α) := ⟨Pl.dep α + 1, fun xs => plAll xs.l, fun xs ys => by
  show D.eqvAll (encL xs.l) (encL ys.l) = _
  rw [eqvAll_enc]
  obtain ⟨xs⟩ := xs
  obtain ⟨ys⟩ := ys
  by_cases h : xs = ys
  · subst h; simp
  · rw [decide_eq_false h, decide_eq_false (fun z => h (Tup.mk.inj z))]⟩
theorem plT {n : Nat} {ds : List D} (h : ∀ d ∈ ds, D.pl n d = true) : D.pl (n + 1) (.tup ds) = true := by
  simp only [D.pl, List.all_eq_true]; exact h
instance : Pl (α × β) := ⟨max (Pl.dep α) (Pl.dep β) + 1, fun p => plT fun d hd => by
    rcases List.mem_cons.mp hd with rfl | hd
    · exact D.pl_mono (Nat.le_max_left _ _) (Pl.pl p.1)
    · rcases List.mem_singleton.mp hd with rfl
      exact D.pl_mono (Nat.le_max_right _ _) (Pl.pl p.2), fun p q => by
  obtain ⟨a, b⟩ := p
  obtain ⟨a', b'⟩ := q
  show (D.eqv (enc a) (enc a') && (D.eqv (enc b) (enc b') && true)) = _
  rw [Pl.eqv, Pl.eqv, Bool.and_true]
  by_cases h : a = a' <;> by_cases h2 : b = b' <;> simp [h, h2]⟩
instance : Pl (T3 α β γ) := ⟨max (Pl.dep α) (max (Pl.dep β) (Pl.dep γ)) + 1, fun p => plT fun d hd => by
    rcases List.mem_cons.mp hd with rfl | hd
    · exact D.pl_mono (Nat.le_max_left _ _) (Pl.pl p.a)
    · rcases List.mem_cons.mp hd with rfl | hd
      · exact D.pl_mono (Nat.le_trans (Nat.le_max_left _ _) (Nat.le_max_right _ _)) (Pl.pl p.b)
      · rcases List.mem_singleton.mp hd with rfl
        exact D.pl_mono (Nat.le_trans (Nat.le_max_right _ _) (Nat.le_max_right _ _)) (Pl.pl p.c), fun p q => by
  obtain ⟨a, b, c⟩ := p
  obtain ⟨a', b', c'⟩ := q
  show (D.eqv (enc a) (enc a') && (D.eqv (enc b) (enc b') && (D.eqv (enc c) (enc c') && true))) = _
  rw [Pl.eqv, Pl.eqv, Pl.eqv, Bool.and_true]
  by_cases h : a = a' <;> by_cases h2 : b = b' <;> by_cases h3 : c = c' <;> simp [h, h2, h3]⟩
instance : Pl (T4 α β γ δ) := ⟨max (Pl.dep α) (max (Pl.dep β) (max (Pl.dep γ) (Pl.dep δ))) + 1, fun p => plT fun d hd => by
    simp only [List.mem_cons, List.not_mem_nil, or_false] at hd
    rcases hd with rfl | rfl | rfl | rfl
    · exact D.pl_mono (by omega) (Pl.pl p.a)
    · exact D.pl_mono (by omega) (Pl.pl p.b)
    · exact D.pl_mono (by omega) (Pl.pl p.c)
    · exact D.pl_mono (by omega) (Pl.pl p.d), fun p q => by
  obtain ⟨a, b, c, d⟩ := p
  obtain ⟨a', b', c', d'⟩ := q
  show (D.eqv (enc a) (enc a') && (D.eqv (enc b) (enc b') && (D.eqv (enc c) (enc c') && (D.eqv (enc d) (enc d') && true)))) = _
  rw [Pl.eqv, Pl.eqv, Pl.eqv, Pl.eqv, Bool.and_true]
  by_cases h : a = a' <;> by_cases h2 : b = b' <;> by_cases h3 : c = c' <;> by_cases h4 : d = d' <;> simp [h, h2, h3, h4]⟩
instance : Pl (T5 α β γ δ ε) := ⟨max (Pl.dep α) (max (Pl.dep β) (max (Pl.dep γ) (max (Pl.dep δ) (Pl.dep ε)))) + 1, fun p => plT fun d hd => by
    simp only [List.mem_cons, List.not_mem_nil, or_false] at hd
    rcases hd with rfl | rfl | rfl | rfl | rfl
    · exact D.pl_mono (by omega) (Pl.pl p.a)
    · exact D.pl_mono (by omega) (Pl.pl p.b)
    · exact D.pl_mono (by omega) (Pl.pl p.c)
    · exact D.pl_mono (by omega) (Pl.pl p.d)
    · exact D.pl_mono (by omega) (Pl.pl p.e), fun p q => by
  obtain ⟨a, b, c, d, e⟩ := p
  obtain ⟨a', b', c', d', e'⟩ := q
  show (D.eqv (enc a) (enc a') && (D.eqv (enc b) (enc b') && (D.eqv (enc c) (enc c') && (D.eqv (enc d) (enc d') && (D.eqv (enc e) (enc e') && true))))) = _
  rw [Pl.eqv, Pl.eqv, Pl.eqv, Pl.eqv, Pl.eqv, Bool.and_true]
  by_cases h : a = a' <;> by_cases h2 : b = b' <;> by_cases h3 : c = c' <;> by_cases h4 : d = d' <;> by_cases h5 : e = e' <;> simp [h, h2, h3, h4, h5]⟩
/-- never None -/
class NN (α : Type) [Enc α] where
  nn : ∀ x : α, D.eqv (enc x) .non = false ∧ D.eqv .non (enc x) = false ∧ enc x ≠ .non
instance : NN Int := ⟨fun x => ⟨rfl, rfl, fun z => nomatch (show D.int x = .non from z)⟩⟩
instance : NN Bool := ⟨fun x => ⟨rfl, rfl, fun z => nomatch (show D.bl x = .non from z)⟩⟩
instance : NN Str := ⟨fun x => ⟨rfl, rfl, fun z => nomatch (show D.str x = .non from z)⟩⟩
end
section
variable {α β γ δ ε : Type} [Enc α] [Enc β] [Enc γ] [Enc δ] [Enc ε]
instance : NN (List α) := ⟨fun x => ⟨rfl, rfl, fun z => nomatch (show D.lst (encL x) = .non from z)⟩⟩
instance : NN (Tup α) := ⟨fun x => ⟨rfl, rfl, fun z => nomatch (show D.tup (encL x.l) = .non from z)⟩⟩
instance : NN (α × β) := ⟨fun x => ⟨rfl, rfl, fun z => nomatch (show D.tup [enc x.1, enc x.2] = .non from z)⟩⟩
instance : NN (T3 α β γ) := ⟨fun x => ⟨rfl, rfl, fun z => nomatch (show D.tup [enc x.a, enc x.b, enc x.c] = .non from z)⟩⟩
instance : NN (T4 α β γ δ) := ⟨fun x => ⟨rfl, rfl, fun z => nomatch (show D.tup [enc x.a, enc x.b, enc x.c, enc x.d] = .non from z)⟩⟩
instance : NN (T5 α β γ δ ε) := ⟨fun x => ⟨rfl, rfl, fun z => nomatch (show D.tup [enc x.a, enc x.b, enc x.c, enc x.d, enc x.e] = .non from z)⟩⟩
instance [DecidableEq α] [Pl α] [NN α] : Pl (Option α) := ⟨Pl.dep α, fun o => match o with
  | none => by cases (Pl.dep α) <;> rfl
  | some x => Pl.pl x, fun o o' => match o, o' with
  | none, none => rfl
  | none, some y => (NN.nn y).2.1
  | some x, none => (NN.nn x).1
  | some x, some y => by
    show D.eqv (enc x) (enc y) = _
    rw [Pl.eqv]
    by_cases h : x = y <;> simp [h]⟩
end
end Pf

/-! P4: operators, comparisons, subscripts, built-ins: what each comes to. -/
namespace Pf
open PySem PySem.Spec L2
open PyProof.Rows hiding St
open M (need)

section
variable {c : Cfg} {Γ : Fm} {L : Led} {α β γ : Type} [Enc α] [Enc β] [Enc γ]
/-- a value, no new object -/
theorem Pst.val {G H : Hp} {σ : L2.St} {Q : VK} {x : α} {v : V} (p : Pst c G H σ Q (.ok x)) (s : Sub G H) (r : Rp c.K c.cA G v (enc x)) : Q v H := p v G H (Ext.refl s) r
theorem Pst.need {G H : Hp} {σ : L2.St} {Q : VK} {b : Bool} {m : M α} (p : Pst c G H σ Q (need b m)) : b = true ∧ Pst c G H σ Q m := by
  cases b with
  | true => exact ⟨rfl, p⟩
  | false => exact p.elim
theorem PstN.need {G H : Hp} {σ : L2.St} {Q : VK} {b : Bool} {m : M (List α)} (p : PstN c G H σ Q (need b m)) : b = true ∧ PstN c G H σ Q m := by
  cases b with
  | true => exact ⟨rfl, p⟩
  | false => exact p.elim

/-! ### numbers -/
theorem bop_add {x y : Int} : BOp c (binaryOp .Add) x y (.ok (x + y)) := fun G H σ v u Q s r r' p => by
  cases r; cases r'; exact wpO_of op_add ⟨_, _, rfl, rfl, p.val s (.int _)⟩
theorem bop_sub {x y : Int} : BOp c (binaryOp .Sub) x y (.ok (x - y)) := fun G H σ v u Q s r r' p => by
  cases r; cases r'; exact wpO_of op_sub ⟨_, _, rfl, rfl, p.val s (.int _)⟩
def w64 : Int := 18446744073709551616
theorem w64_eq : w64 = 2 ^ 64 := by decide
def mulI (x y : Int) : M Int := need (decide (-w64 < x ∧ x < w64) || decide (-w64 < y ∧ y < w64)) (.ok (x * y))
theorem bop_mul {x y : Int} : BOp c (binaryOp .Mult) x y (mulI x y) := fun G H σ v u Q s r r' p => by
  cases r; cases r'
  obtain ⟨h, p⟩ := p.need
  refine wpO_of op_mul ⟨_, _, rfl, rfl, ?_, p.val s (.int _)⟩
  rw [Bool.or_eq_true] at h
  rcases h with h | h
  · have h := of_decide_eq_true h
    rw [w64_eq] at h
    exact .inl h
  · have h := of_decide_eq_true h
    rw [w64_eq] at h
    exact .inr h
theorem bop_mulR {x y : Int} (h : -w64 < y ∧ y < w64 := by decide) : BOp c (binaryOp .Mult) x y (.ok (x * y)) := fun G H σ v u Q s r r' p => by
  cases r; cases r'
  rw [w64_eq] at h
  exact wpO_of op_mul ⟨_, _, rfl, rfl, .inr h, p.val s (.int _)⟩
theorem bop_mulL {x y : Int} (h : -w64 < x ∧ x < w64 := by decide) : BOp c (binaryOp .Mult) x y (.ok (x * y)) := fun G H σ v u Q s r r' p => by
  cases r; cases r'
  rw [w64_eq] at h
  exact wpO_of op_mul ⟨_, _, rfl, rfl, .inl h, p.val s (.int _)⟩
def divI (x y : Int) : M Int := need (decide (0 < y ∧ y < 1073741824)) (.ok (x / y))
def modI (x y : Int) : M Int := need (decide (0 < y)) (.ok (x % y))
theorem bop_div {x y : Int} : BOp c (binaryOp .FloorDiv) x y (divI x y) := fun G H σ v u Q s r r' p => by
  cases r; cases r'
  obtain ⟨h, p⟩ := p.need
  exact wpO_of op_fdiv ⟨_, _, rfl, rfl, (of_decide_eq_true h : 0 < y ∧ y < 1073741824), p.val s (.int _)⟩
theorem bop_mod {x y : Int} : BOp c (binaryOp .Mod) x y (modI x y) := fun G H σ v u Q s r r' p => by
  cases r; cases r'
  obtain ⟨h, p⟩ := p.need
  exact wpO_of op_mod ⟨_, _, rfl, rfl, of_decide_eq_true h, p.val s (.int _)⟩
theorem bop_divC {x y : Int} (h : 0 < y ∧ y < 1073741824 := by decide) : BOp c (binaryOp .FloorDiv) x y (.ok (x / y)) := fun G H σ v u Q s r r' p => by
  cases r; cases r'
  exact wpO_of op_fdiv ⟨_, _, rfl, rfl, h, p.val s (.int _)⟩
theorem bop_modC {x y : Int} (h : 0 < y := by decide) : BOp c (binaryOp .Mod) x y (.ok (x % y)) := fun G H σ v u Q s r r' p => by
  cases r; cases r'
  exact wpO_of op_mod ⟨_, _, rfl, rfl, h, p.val s (.int _)⟩
theorem bop_powC {x y : Int} (h : CPow x y := by exact ⟨by decide, by decide, by decide⟩) : BOp c (binaryOp .Pow) x y (.ok (x ^ y.toNat)) := fun G H σ v u Q s r r' p => by
  cases r; cases r'
  exact wpO_of op_pow ⟨_, _, rfl, rfl, h, p.val s (.int _)⟩
theorem ce_neg {a : Expr} {pos : Pos} {m : M Int} (h : CE c a Γ L m) : CE c (.UnaryOp .USub a pos) Γ L (m.bind fun x => .ok (-x)) := ce_un (fun x G H σ v Q s r p => by
  cases r; exact wpU_of un_neg ⟨_, rfl, p.val s (.int _)⟩) h
theorem bop_lt {x y : Int} : BOp c (compareOp .Lt) x y (.ok (decide (x < y))) := fun G H σ v u Q s r r' p => by
  cases r; cases r'; exact wpO_of op_lt ⟨_, _, rfl, rfl, p.val s (.bl _)⟩
theorem bop_le {x y : Int} : BOp c (compareOp .LtE) x y (.ok (decide (x ≤ y))) := fun G H σ v u Q s r r' p => by
  cases r; cases r'; exact wpO_of op_le ⟨_, _, rfl, rfl, p.val s (.bl _)⟩
theorem bop_gt {x y : Int} : BOp c (compareOp .Gt) x y (.ok (decide (y < x))) := fun G H σ v u Q s r r' p => by
  cases r; cases r'; exact wpO_of op_gt ⟨_, _, rfl, rfl, p.val s (.bl _)⟩
theorem bop_ge {x y : Int} : BOp c (compareOp .GtE) x y (.ok (decide (y ≤ x))) := fun G H σ v u Q s r r' p => by
  cases r; cases r'; exact wpO_of op_ge ⟨_, _, rfl, rfl, p.val s (.bl _)⟩

/-! ### texts -/
def catS (x y : Str) : M Str := need (decide (x.length + y.length ≤ sizeLine)) (.ok (x ++ y))
theorem bop_cat {x y : Str} : BOp c (binaryOp .Add) x y (catS x y) := fun G H σ v u Q s r r' p => by
  cases r; cases r'
  obtain ⟨h, p⟩ := p.need
  exact wpO_of op_add_str ⟨_, _, rfl, rfl, of_decide_eq_true h, p.val s (.str _)⟩
def mulS (x : Str) (n : Int) : M Str := need (decide (0 ≤ n ∧ n ≤ 1000000 ∧ x.length * n.toNat ≤ sizeLine)) (.ok (Txt.mul x n))
theorem mulOk_of {x : Str} {n : Int} (h : 0 ≤ n ∧ n ≤ 1000000 ∧ x.length * n.toNat ≤ sizeLine) : MulOk x n := by
  obtain ⟨h1, h2, h3⟩ := h
  have hz : (sizeLine : Nat) = 16777216 := by decide
  refine ⟨by simp; omega, fun hn hx => ?_, fun hn hx => ?_⟩
  · have hn' : 1 ≤ n.toNat := by omega
    have hl : x.length ≤ 16777216 := by
      have : x.length * 1 ≤ x.length * n.toNat := Nat.mul_le_mul_left _ hn'
      omega
    have hd : (9223372036854 : Int) ≤ (2 ^ 63 - 1) / n := by
      rw [Int.le_ediv_iff_mul_le (by omega)]
      have : (9223372036854 : Int) * n ≤ 9223372036854 * 1000000 := Int.mul_le_mul_of_nonneg_left h2 (by decide)
      have e : (2 : Int) ^ 63 - 1 = 9223372036854775807 := by decide
      rw [e]
      omega
    omega
  · simpa [Builtin.Str.tooLong] using h3
theorem bop_mulS {x : Str} {y : Int} : BOp c (binaryOp .Mult) x y (mulS x y) := fun G H σ v u Q s r r' p => by
  cases r; cases r'
  obtain ⟨h, p⟩ := p.need
  intro pins sh σ' v' u' I rx ry
  obtain ⟨t, rfl⟩ := rx
  obtain ⟨t', rfl⟩ := ry
  exact SB.mul (mulOk_of (of_decide_eq_true h)) fun t'' k => ⟨.str _, H, I.tok _, ⟨_, rfl⟩, p.val s (.str _)⟩

/-! ### equality, is None -/
theorem bop_eq [DecidableEq α] [Pl α] {x y : α} (hu : c.X.A.units + 64 < cLine) (hd : Pl.dep α ≤ 60 := by decide) : BOp c (compareOp .Eq) x y (.ok (decide (x = y))) := fun G H σ v u Q s r r' p => by
  intro pins sh σ' v' u' I rx ry
  refine rcAt_pl I s (Pl.dep α) rx ry r r' (Pl.pl x) (Pl.pl y) (by omega) _ _ _ _ ?_
  exact ⟨.bl _, H, I, rfl, by rw [Pl.eqv]; exact p.val s (.bl _)⟩
theorem bop_ne [DecidableEq α] [Pl α] {x y : α} (hu : c.X.A.units + 64 < cLine) (hd : Pl.dep α ≤ 60 := by decide) : BOp c (compareOp .NotEq) x y (.ok (!decide (x = y))) := fun G H σ v u Q s r r' p => by
  intro pins sh σ' v' u' I rx ry
  refine rcNeAt_pl I s (Pl.dep α) rx ry r r' (Pl.pl x) (Pl.pl y) (by omega) _ _ _ _ ?_
  exact ⟨.bl _, H, I, rfl, by rw [Pl.eqv]; exact p.val s (.bl _)⟩
theorem rp_non {K : PySem.W.Frag} {cA : Str → Addr} {G : Hp} [NN α] {v : V} {x : Option α} (r : Rp K cA G v (enc x)) : decide (v = .non) = x.isNone := by
  cases x with
  | none =>
    have r : Rp K cA G v .non := r
    cases r; rfl
  | some y =>
    have r : Rp K cA G v (enc y) := r
    refine decide_eq_false fun e => ?_
    subst e
    have h := (NN.nn y).2.2
    generalize enc y = d at r h
    cases r
    exact h rfl
theorem bop_isN [NN α] {x : Option α} : BOp c (compareOp .Is) x () (.ok x.isNone) := fun G H σ v u Q s r r' p => by
  cases r'
  exact wpO_of op_isN ⟨rfl, by rw [rp_non r]; exact p.val s (.bl _)⟩
theorem bop_notN [NN α] {x : Option α} : BOp c (compareOp .IsNot) x () (.ok x.isSome) := fun G H σ v u Q s r r' p => by
  cases r'
  exact wpO_of op_notN ⟨rfl, by rw [rp_non r, show (!x.isNone) = x.isSome by cases x <;> rfl]; exact p.val s (.bl _)⟩
end
end Pf

/-! P5: statements, loops, defs. -/
namespace Pf
open PySem PySem.Spec L2
open PyProof.Rows hiding St

/-- how a block ends -/
inductive Outc where
  | nx (Γ : List Addr → Fm) (L : List Addr → Led) | rt (d : D) (L : Led) | fin (d : D) (L : Led) | bk (Γ : List Addr → Fm) (L : List Addr → Led) | ct (Γ : List Addr → Fm) (L : List Addr → Led) | nev | rtn (d : Cell) (L : Led)
/-- .. within an if that more follows on; within a loop -/
def Outc.ex : Outc → Outc
  | .nx _ _ => .nev
  | .fin d L => .rt d L
  | o => o
def Outc.exl : Outc → Outc
  | .rt d L => .rt d L
  | .fin d L => .rt d L
  | .rtn d L => .rtn d L
  | _ => .nev
inductive Jn (S O : Type) where
  | go (s : S) | out (o : O)
inductive Fl (S O : Type) where
  | nx (s : S) | bk (s : S) | ct (s : S) | out (o : O)
def Jn.kap {S O : Type} (κ : O → Outc) (fr : S → List Addr → Fm) (lr : S → List Addr → Led) : Jn S O → Outc
  | .go s => .nx (fr s) (lr s)
  | .out o => (κ o).ex
def Fl.kap {S O : Type} (κ : O → Outc) (fr : S → List Addr → Fm) (lr : S → List Addr → Led) : Fl S O → Outc
  | .nx s => .nx (fr s) (lr s)
  | .bk s => .bk (fr s) (lr s)
  | .ct s => .ct (fr s) (lr s)
  | .out o => (κ o).exl
def goK {S : Type} (fr : S → List Addr → Fm) (lr : S → List Addr → Led) : S → Outc := fun s => .nx (fr s) (lr s)
def Jn.then {S O : Type} (k : S → M O) : Jn S O → M O
  | .go s => k s
  | .out o => .ok o
/-! ### loops -/
def foldM {S α : Type} (mb : S → α → M S) : S → List α → M S
  | s, [] => .ok s
  | s, x :: xs => (mb s x).bind fun s' => foldM mb s' xs
def Fl.on {S O : Type} (f : S → M (Jn S O)) : Fl S O → M (Jn S O)
  | .nx s => f s
  | .ct s => f s
  | .bk s => .ok (.go s)
  | .out o => .ok (.out o)
def loopM {S O α : Type} (mb : S → α → M (Fl S O)) : S → List α → M (Jn S O)
  | s, [] => .ok (.go s)
  | s, x :: xs => (mb s x).bind fun o => o.on fun s' => loopM mb s' xs
def whileM {S O : Type} (mc : S → M Bool) (mb : S → M (Fl S O)) : Nat → S → M (Jn S O)
  | 0, _ => .stuck
  | n + 1, s => (mc s).bind fun t => if t = true then (mb s).bind fun o => o.on fun s' => whileM mc mb n s' else .ok (.go s)
def whileS {S : Type} (mc : S → M Bool) (mb : S → M S) : Nat → S → M S
  | 0, _ => .stuck
  | n + 1, s => (mc s).bind fun t => if t = true then (mb s).bind fun s' => whileS mc mb n s' else .ok s
/-- turns enough -/
@[irreducible] def FUEL : Nat := 1000000000
def flNx {S O : Type} (m : M S) : M (Fl S O) := m.bind fun s => .ok (.nx s)
def jnGo {S O : Type} (m : M S) : M (Jn S O) := m.bind fun s => .ok (.go s)
theorem loopM_fold {S O α : Type} (mb : S → α → M S) : ∀ (xs : List α) (s : S), loopM (O := O) (fun s x => flNx (mb s x)) s xs = jnGo (foldM mb s xs)
  | [], s => rfl
  | x :: xs, s => by
    unfold loopM foldM flNx
    cases h : mb s x with
    | stuck => rfl
    | raise e => rfl
    | ok s' => exact loopM_fold mb xs s'
theorem whileM_S {S O : Type} (mc : S → M Bool) (mb : S → M S) : ∀ (n : Nat) (s : S), whileM (O := O) mc (fun s => flNx (mb s)) n s = jnGo (whileS mc mb n s)
  | 0, s => rfl
  | n + 1, s => by
    unfold whileM whileS flNx
    cases hc : mc s with
    | stuck => rfl
    | raise e => rfl
    | ok t =>
      cases t with
      | false => rfl
      | true =>
        show (((mb s).bind fun s' => M.ok (Fl.nx s')).bind _) = jnGo ((mb s).bind fun s' => whileS mc mb n s')
        cases h : mb s with
        | stuck => rfl
        | raise e => rfl
        | ok s' => exact whileM_S mc mb n s'
theorem jnGo_then {S O : Type} (m : M S) (k : S → M O) : ((jnGo m : M (Jn S O)).bind fun j => j.then k) = m.bind k := by
  cases m <;> rfl

/-- how what follows takes an end -/
def Dlv (c : Cfg) (B G0 : Hp) (D : Ends) : Outc → Prop
  | .nx Γ L => ∀ (as : List Addr) G H σ, Stt c.K c.cA B G0 G H σ (Γ as) (L as) → D.nx σ H
  | .rt d L => ∀ v G H σ Γ, Stt c.K c.cA B G0 G H σ Γ L → Rp c.K c.cA G v d → D.rt v H
  | .fin d L => (∀ v G H σ Γ, Stt c.K c.cA B G0 G H σ Γ L → Rp c.K c.cA G v d → D.rt v H) ∧ (d = .non → ∀ G H σ Γ, Stt c.K c.cA B G0 G H σ Γ L → D.nx σ H)
  | .bk Γ L => ∀ (as : List Addr) G H σ, Stt c.K c.cA B G0 G H σ (Γ as) (L as) → D.bk σ H
  | .ct Γ L => ∀ (as : List Addr) G H σ, Stt c.K c.cA B G0 G H σ (Γ as) (L as) → D.ct σ H
  | .nev => True
  | .rtn d L => ∀ p G H σ Γ, Stt c.K c.cA B G0 G H σ Γ ((p, d) :: L) → D.rt (.ref p) H
def PstS {O : Type} (c : Cfg) (B G0 : Hp) (xf : Fm) (xl : Led) (D : Ends) (κ : O → Outc) : M O → Prop
  | .stuck => False
  | .ok o => Dlv c B G0 D (κ o)
  | .raise e => ∀ cls d G' H' σ', Stt c.K c.cA B G0 G' H' σ' xf xl → ErrR c.K c.cA G' H' e cls d → c.W cls d σ' H'
/-- the statements come to m; κ says how each result leaves them; xf, xl: what is known where an error leaves them -/
def CS {O : Type} (c : Cfg) (xf : Fm) (xl : Led) (sts : List Stmt) (Γ : Fm) (L : Led) (κ : O → Outc) (m : M O) : Prop :=
  ∀ (B G0 G H : Hp) (σ : L2.St) (D : Ends), Stt c.K c.cA B G0 G H σ Γ L → PstS c B G0 xf xl D κ m → wpSs c.X sts D σ H

section
variable {c : Cfg} {Γ Γ' xf : Fm} {L L' xl : Led} {α β γ O : Type} [Enc α] [Enc β] [Enc γ] {κ : O → Outc} {rest : List Stmt} {D : Ends} {B G0 G H : Hp} {σ : L2.St}
theorem Dlv.ex {o : Outc} {nx : L2.St → Hp → Prop} (h : Dlv c B G0 D o) : Dlv c B G0 { D with nx := nx } o.ex := by
  cases o with
  | nx => trivial
  | fin d L => exact h.1
  | rt d L => exact h
  | bk => exact h
  | ct => exact h
  | nev => trivial
  | rtn => exact h
theorem Dlv.exl {o : Outc} {D' : Ends} (e : D'.rt = D.rt) (h : Dlv c B G0 D o) : Dlv c B G0 D' o.exl := by
  cases o with
  | nx => trivial
  | fin d L => intro v G H σ Γ s r; rw [e]; exact h.1 v G H σ Γ s r
  | rt d L => intro v G H σ Γ s r; rw [e]; exact h v G H σ Γ s r
  | bk => trivial
  | ct => trivial
  | nev => trivial
  | rtn d L => intro p G H σ Γ s; rw [e]; exact h p G H σ Γ s
theorem Stt.base {G' H' : Hp} {σ' : L2.St} (s : Stt c.K c.cA B G0 G H σ Γ L) (s' : Stt c.K c.cA B G G' H' σ' Γ' L') : Stt c.K c.cA B G0 G' H' σ' Γ' L' :=
  { s' with g0 := s.g0.trans s'.g0, bg := fun a h => (s'.bg a h).trans (s.bg a h) }
theorem Stt.self (s : Stt c.K c.cA B G0 G H σ Γ L) : Stt c.K c.cA B G G H σ Γ L := { s with g0 := Sub.refl G, bg := fun _ _ => rfl }
theorem Dlv.base {o : Outc} (s : Stt c.K c.cA B G0 G H σ Γ L) (h : Dlv c B G0 D o) : Dlv c B G D o := by
  cases o with
  | nx => exact fun as G1 H1 σ1 s1 => h as G1 H1 σ1 (s.base s1)
  | fin d L => exact ⟨fun v G1 H1 σ1 Γ1 s1 r => h.1 v G1 H1 σ1 Γ1 (s.base s1) r, fun e G1 H1 σ1 Γ1 s1 => h.2 e G1 H1 σ1 Γ1 (s.base s1)⟩
  | rt d L => exact fun v G1 H1 σ1 Γ1 s1 r => h v G1 H1 σ1 Γ1 (s.base s1) r
  | bk => exact fun as G1 H1 σ1 s1 => h as G1 H1 σ1 (s.base s1)
  | ct => exact fun as G1 H1 σ1 s1 => h as G1 H1 σ1 (s.base s1)
  | nev => trivial
  | rtn d L => exact fun p G1 H1 σ1 Γ1 s1 => h p G1 H1 σ1 Γ1 (s.base s1)
theorem PstS.base {m : M O} (s : Stt c.K c.cA B G0 G H σ Γ L) (h : PstS c B G0 xf xl D κ m) : PstS c B G xf xl D κ m := by
  cases m with
  | stuck => exact h
  | raise e => exact fun cls d G1 H1 σ1 s1 r => h cls d G1 H1 σ1 (s.base s1) r
  | ok o => exact Dlv.base s h
theorem cs_is {sts : List Stmt} {m m' : M O} (h : CS c xf xl sts Γ L κ m) (q : m = m') : CS c xf xl sts Γ L κ m' := q ▸ h
/-- an error of an expression -/
theorem PstS.raise {e : Err} {Q : VK} {G1 H1 : Hp} (s : Stt c.K c.cA B G0 G1 H1 σ Γ L) (hx : Wk Γ L xf xl) (p : PstS c B G0 xf xl D κ (.raise e)) : Pst (α := α) c G1 H1 σ Q (.raise e) :=
  fun cls d G' H' x r => p cls d G' H' σ ((s.exts x).wk hx) r
theorem PstS.raiseT {e : Err} {Q : Bool → Hp → Prop} {G1 H1 : Hp} (s : Stt c.K c.cA B G0 G1 H1 σ Γ L) (hx : Wk Γ L xf xl) (p : PstS c B G0 xf xl D κ (.raise e)) : PstT c G1 H1 σ Q (.raise e) :=
  fun cls d G' H' x r => p cls d G' H' σ ((s.exts x).wk hx) r
theorem PstS.raiseN {e : Err} {Q : VK} {G1 H1 : Hp} (s : Stt c.K c.cA B G0 G1 H1 σ Γ L) (hx : Wk Γ L xf xl) (p : PstS c B G0 xf xl D κ (.raise e)) : PstN (α := α) c G1 H1 σ Q (.raise e) :=
  fun cls d G' H' x r => p cls d G' H' σ ((s.exts x).wk hx) r
theorem PstS.raiseA {e : Err} {Q : List V → Hp → Prop} {G1 H1 : Hp} (s : Stt c.K c.cA B G0 G1 H1 σ Γ L) (hx : Wk Γ L xf xl) (p : PstS c B G0 xf xl D κ (.raise e)) : PstA c G1 H1 σ Q (.raise e) :=
  fun cls d G' H' x r => p cls d G' H' σ ((s.exts x).wk hx) r
theorem cs_nil {o : O} {F : List Addr → Fm} {LL : List Addr → Led} (as : List Addr) (hk : κ o = .nx F LL) (w : Wk Γ L (F as) (LL as)) : CS c xf xl [] Γ L κ (.ok o) := fun B G0 G H σ D s p => by
  have p : Dlv c B G0 D (κ o) := p
  rw [hk] at p
  exact wpSs_of pss_nil (p as G H σ (s.wk w))
theorem cs_end {o : O} (hk : κ o = .fin .non L') (w : L'.Sublist L) : CS c xf xl [] Γ L κ (.ok o) := fun B G0 G H σ D s p => by
  have p : Dlv c B G0 D (κ o) := p
  rw [hk] at p
  exact wpSs_of pss_nil (p.2 rfl G H σ Γ (s.wk ⟨rfl, fun _ _ h => h, w⟩))
theorem cs_pass {pos : Pos} {m : M O} (h : CS c xf xl rest Γ L κ m) : CS c xf xl (.Pass pos :: rest) Γ L κ m := fun B G0 G H σ D s p => wpSs_of (pss_cons ps_pass pss_wp) (h B G0 G H σ D s p)
theorem cs_break {pos : Pos} {o : O} {F : List Addr → Fm} {LL : List Addr → Led} (as : List Addr) (hk : κ o = .bk F LL) (w : Wk Γ L (F as) (LL as)) : CS c xf xl (.Break pos :: rest) Γ L κ (.ok o) := fun B G0 G H σ D s p => by
  have p : Dlv c B G0 D (κ o) := p
  rw [hk] at p
  exact wpSs_of (pss_cons ps_break pss_wp) (p as G H σ (s.wk w))
theorem cs_continue {pos : Pos} {o : O} {F : List Addr → Fm} {LL : List Addr → Led} (as : List Addr) (hk : κ o = .ct F LL) (w : Wk Γ L (F as) (LL as)) : CS c xf xl (.Continue pos :: rest) Γ L κ (.ok o) := fun B G0 G H σ D s p => by
  have p : Dlv c B G0 D (κ o) := p
  rw [hk] at p
  exact wpSs_of (pss_cons ps_continue pss_wp) (p as G H σ (s.wk w))
theorem cs_ret {e : Expr} {pos : Pos} {m : M α} {f : α → O} (he : CE c e Γ L m) (hk : ∀ x, κ (f x) = .rt (enc x) L' ∨ κ (f x) = .fin (enc x) L') (w : L'.Sublist L) (hx : Wk Γ L xf xl := by exact wk_no rfl) :
    CS c xf xl (.Return (some e) pos :: rest) Γ L κ (m.bind fun x => .ok (f x)) := fun B G0 G H σ D s p => by
  refine wpSs_of (pss_cons (ps_ret pe_wp) pss_wp) ?_
  refine he.then (P := PstS c B G0 xf xl D κ) s p (fun z => z) (fun e z => z.raise s hx) fun x v G1 H1 p e1 s1 r1 => ?_
  have p : Dlv c B G0 D (κ (f x)) := p
  have s2 := s1.wk (Γ' := Γ) ⟨rfl, fun _ _ h => h, w⟩
  rcases hk x with hk | hk
  · rw [hk] at p
    exact p v G1 H1 σ Γ s2 r1
  · rw [hk] at p
    exact p.1 v G1 H1 σ Γ s2 r1
/-- return x, x a mutable list -/
theorem cs_retL {i : Nat} {x : Str} {pos pos' : Pos} {a : Addr} {xs : List α} {o : O} (hi : Γ[i]? = some (some (.own a))) (hL : L = (a, .lst (encL xs)) :: L') (hk : κ o = .rt (enc xs) L' ∨ κ o = .fin (enc xs) L') (hN : c.X.N[i]? = some x := by rfl)
    (hv : Vis c.X.env.scope x := by first | exact Or.inl rfl | exact Or.inr (Or.inl rfl) | exact Or.inr (Or.inr rfl)) (hd : (x == ("__debug__" : Str)) = false := by decide) (hcd : (x == ("__classdict__" : Str)) = false := by decide) :
    CS c xf xl (.Return (some (.Name x pos')) pos :: rest) Γ L κ (.ok o) := fun B G0 G H σ D s p => by
  subst hL
  have p : Dlv c B G0 D (κ o) := p
  obtain ⟨v, hσ, r⟩ := s.slot i _ hi
  cases r
  obtain ⟨G', s', _, r'⟩ := s.frzL
  refine wpSs_of (pss_cons (ps_ret (pe_var hN hv hd hcd)) pss_wp) ⟨.ref a, hσ, ?_⟩
  rcases hk with hk | hk
  · rw [hk] at p
    exact p _ G' H σ Γ s' r'
  · rw [hk] at p
    exact p.1 _ G' H σ Γ s' r'
theorem cs_retN {pos : Pos} {o : O} (hk : κ o = .rt .non L' ∨ κ o = .fin .non L') (w : L'.Sublist L) : CS c xf xl (.Return none pos :: rest) Γ L κ (.ok o) := fun B G0 G H σ D s p => by
  have p : Dlv c B G0 D (κ o) := p
  refine wpSs_of (pss_cons ps_retN pss_wp) ?_
  have s' := s.wk (Γ' := Γ) ⟨rfl, fun _ _ h => h, w⟩
  rcases hk with hk | hk
  · rw [hk] at p
    exact p .non G H σ Γ s' .non
  · rw [hk] at p
    exact p.1 .non G H σ Γ s' .non
/-- x = e -/
theorem cs_set {i : Nat} {x : Str} {e : Expr} {pos pos' : Pos} {m : M α} {k : α → M O} (he : CE c e Γ L m) (hr : ∀ y, CS c xf xl rest (Γ.set i (some (enc y))) L κ (k y)) (nd : c.X.N.Nodup) (hN : c.X.N[i]? = some x := by rfl) (hl : Loc c.X.env.scope x := by first | exact Or.inl rfl | exact Or.inr rfl)
    (hs : swapsWith e (some (.Name x pos')) pos.line c.X.env = pure false := by rfl) (hf : c.X.fn x = true ∨ c.X.env.scope.names.lookup x = some .local := by first | exact .inl rfl | exact .inr rfl) (hx : Wk Γ L xf xl := by exact wk_no rfl) :
    CS c xf xl (.Assign [.Name x pos'] e pos :: rest) Γ L κ (m.bind k) := fun B G0 G H σ D s p => by
  refine wpSs_of (pss_cons (ps_set (i := i) nd hN hl pe_wp hs hf) pss_wp) ?_
  refine he.then (P := PstS c B G0 xf xl D κ) s p (fun z => z) (fun e z => z.raise s hx) fun y v G1 H1 p e1 s1 r1 => ?_
  exact hr y B G0 G1 H1 _ D (s1.set r1) p
/-- x = a new list that stays mutable -/
theorem cs_setN {i : Nat} {x : Str} {e : Expr} {pos pos' : Pos} {m : M (List α)} {k : List α → M O} (he : CN c e Γ L m) (hr : ∀ ys a, CS c xf xl rest (Γ.set i (some (.own a))) ((a, .lst (encL ys)) :: L) κ (k ys)) (nd : c.X.N.Nodup) (hN : c.X.N[i]? = some x := by rfl) (hl : Loc c.X.env.scope x := by first | exact Or.inl rfl | exact Or.inr rfl)
    (hs : swapsWith e (some (.Name x pos')) pos.line c.X.env = pure false := by rfl) (hf : c.X.fn x = true ∨ c.X.env.scope.names.lookup x = some .local := by first | exact .inl rfl | exact .inr rfl) (hx : Wk Γ L xf xl := by exact wk_no rfl) :
    CS c xf xl (.Assign [.Name x pos'] e pos :: rest) Γ L κ (m.bind k) := fun B G0 G H σ D s p => by
  refine wpSs_of (pss_cons (ps_set (i := i) nd hN hl pe_wp hs hf) pss_wp) ?_
  cases m with
  | stuck => exact p.elim
  | raise z => exact he B G0 G H σ _ s (PstS.raiseN s hx p)
  | ok ys =>
    refine he B G0 G H σ _ s fun a vs G' H' e n g ha r => ?_
    have s1 : Stt c.K c.cA B G0 G' H' σ Γ ((a, .lst (encL ys)) :: L) := by
      have s2 := s.exts e
      have hB : B a = none := s.bh.free n
      exact { s2 with
        nd := by
          rw [List.map_cons, List.nodup_cons]
          refine ⟨fun z => ?_, s2.nd⟩
          obtain ⟨⟨p', c'⟩, h1, h2⟩ := List.mem_map.mp z
          have h2 : p' = a := h2
          subst h2
          obtain ⟨o, ho⟩ := (s.cell p' c' h1).2.2.some
          rw [n] at ho; cases ho
        cell := fun p' c' h' => by
          rcases List.mem_cons.mp h' with z | h'
          · cases z; exact ⟨g, hB, vs, ha, r⟩
          · exact s2.cell p' c' h' }
    exact hr ys a B G0 G' H' _ D (s1.set (.own a)) p
/-- an expression as a statement -/
theorem cs_drop {e : Expr} {pos : Pos} {m : M α} {k : M O} (he : CE c e Γ L m) (hr : CS c xf xl rest Γ L κ k) (hs : swapsWith e none pos.line c.X.env = pure false := by rfl) (hx : Wk Γ L xf xl := by exact wk_no rfl) :
    CS c xf xl (.Expr e pos :: rest) Γ L κ (m.bind fun _ => k) := fun B G0 G H σ D s p => by
  refine wpSs_of (pss_cons (ps_expr pe_wp hs) pss_wp) ?_
  refine he.then (P := PstS c B G0 xf xl D κ) s p (fun z => z) (fun e z => z.raise s hx) fun y v G1 H1 p e1 s1 r1 => ?_
  exact hr B G0 G1 H1 _ D s1 p
/-! ### if -/
/-- the last statement -/
theorem cs_ifT {t : Expr} {a b : List Stmt} {pos : Pos} {mt : M Bool} {ma mb : M O} (ht : CT c t Γ L mt) (ha : CS c xf xl a Γ L κ ma) (hb : CS c xf xl b Γ L κ mb) (hx : Wk Γ L xf xl := by exact wk_no rfl) :
    CS c xf xl [.If t a b pos] Γ L κ (mt.bind fun x => if x = true then ma else mb) := fun B G0 G H σ D s p => by
  refine wpSs_of (pss_one (ps_if pt_wp pss_wp pss_wp)) ?_
  refine ht.then (P := PstS c B G0 xf xl D κ) s p (fun z => z) (fun e z => z.raiseT s hx) fun x G1 H1 p e1 s1 => ?_
  cases x with
  | true => exact ha B G0 G1 H1 σ D s1 p
  | false => exact hb B G0 G1 H1 σ D s1 p
theorem Dlv.pex {m : M O} {nx : L2.St → Hp → Prop} (p : PstS c B G0 xf xl D κ m) : PstS c B G0 xf xl { D with nx := nx } (fun o => (κ o).ex) m := by
  cases m with
  | stuck => exact p
  | raise e => exact p
  | ok o => exact Dlv.ex p
/-- the first branch leaves -/
theorem cs_ifX {t : Expr} {a b : List Stmt} {pos : Pos} {mt : M Bool} {ma mb : M O} (ht : CT c t Γ L mt) (ha : CS c xf xl a Γ L (fun o => (κ o).ex) ma) (hb : CS c xf xl (b ++ rest) Γ L κ mb) (hbe : b = []) (hx : Wk Γ L xf xl := by exact wk_no rfl) :
    CS c xf xl (.If t a b pos :: rest) Γ L κ (mt.bind fun x => if x = true then ma else mb) := fun B G0 G H σ D s p => by
  subst hbe
  refine wpSs_of (pss_cons (ps_if pt_wp pss_wp pss_nil) pss_wp) ?_
  refine ht.then (P := PstS c B G0 xf xl D κ) s p (fun z => z) (fun e z => z.raiseT s hx) fun x G1 H1 p e1 s1 => ?_
  cases x with
  | true => exact ha B G0 G1 H1 σ _ s1 (Dlv.pex p)
  | false => exact hb B G0 G1 H1 σ D s1 p
/-- both branches go on, with what S tells -/
theorem cs_ifJ {S : Type} {t : Expr} {a b : List Stmt} {pos : Pos} {mt : M Bool} {ma mb : M S} {k : S → M O} (fr : S → List Addr → Fm) (lr : S → List Addr → Led) (ht : CT c t Γ L mt) (ha : CS c xf xl a Γ L (goK fr lr) ma) (hb : CS c xf xl b Γ L (goK fr lr) mb)
    (hr : ∀ s as, CS c xf xl rest (fr s as) (lr s as) κ (k s)) (hx : Wk Γ L xf xl := by exact wk_no rfl) : CS c xf xl (.If t a b pos :: rest) Γ L κ (mt.bind fun x => (if x = true then ma else mb).bind k) := fun B G0 G H σ D s p => by
  refine wpSs_of (pss_cons (ps_if pt_wp pss_wp pss_wp) pss_wp) ?_
  refine ht.then (P := PstS c B G0 xf xl D κ) s p (fun z => z) (fun e z => z.raiseT s hx) fun x G1 H1 p e1 s1 => ?_
  have go : ∀ {m : M S}, PstS c B G0 xf xl D κ (m.bind k) → PstS c B G0 xf xl { D with nx := fun σ H => wpSs c.X rest D σ H } (goK fr lr) m := fun {m} p => by
    cases m with
    | stuck => exact p
    | raise e => exact p
    | ok z => exact fun as G H σ s => hr z as B G0 G H σ D s p
  cases x with
  | true => exact ha B G0 G1 H1 σ _ s1 (go p)
  | false => exact hb B G0 G1 H1 σ _ s1 (go p)
/-- each branch goes on or leaves -/
theorem cs_ifG {S : Type} {t : Expr} {a b : List Stmt} {pos : Pos} {mt : M Bool} {ma mb : M (Jn S O)} {k : S → M O} (fr : S → List Addr → Fm) (lr : S → List Addr → Led) (ht : CT c t Γ L mt) (ha : CS c xf xl a Γ L (Jn.kap κ fr lr) ma) (hb : CS c xf xl b Γ L (Jn.kap κ fr lr) mb)
    (hr : ∀ s as, CS c xf xl rest (fr s as) (lr s as) κ (k s)) (hx : Wk Γ L xf xl := by exact wk_no rfl) : CS c xf xl (.If t a b pos :: rest) Γ L κ (mt.bind fun x => (if x = true then ma else mb).bind fun j => j.then k) := fun B G0 G H σ D s p => by
  refine wpSs_of (pss_cons (ps_if pt_wp pss_wp pss_wp) pss_wp) ?_
  refine ht.then (P := PstS c B G0 xf xl D κ) s p (fun z => z) (fun e z => z.raiseT s hx) fun x G1 H1 p e1 s1 => ?_
  have go : ∀ {m : M (Jn S O)}, PstS c B G0 xf xl D κ (m.bind fun j => j.then k) → PstS c B G0 xf xl { D with nx := fun σ H => wpSs c.X rest D σ H } (Jn.kap κ fr lr) m := fun {m} p => by
    cases m with
    | stuck => exact p
    | raise e => exact p
    | ok j =>
      cases j with
      | go z => exact fun as G H σ s => hr z as B G0 G H σ D s p
      | out o => exact Dlv.ex p
  cases x with
  | true => exact ha B G0 G1 H1 σ _ s1 (go p)
  | false => exact hb B G0 G1 H1 σ _ s1 (go p)

/-! ### what is walked -/
/-- no list, no tuple is too long -/
structure LenOk (H : Hp) : Prop where
  l : ∀ a xs, Rd H a (.lst xs) → xs.length ≤ sizeLine
  t : ∀ a xs, Rd H a (.tup xs) → xs.length ≤ sizeLine
theorem LenOk.of {X : Cx} {pins : List (Addr × Obj)} {σ : L2.St} {H : Hp} {s : Shared} (I : Inv X pins σ H s) : LenOk H :=
  ⟨fun a xs h => (h.ok I.hok).1, fun a xs h => (h.ok I.hok).1⟩
theorem LenOk.st {H : Hp} (h : LenOk H) {K : PySem.W.Frag} {a : Addr} {xs : List V} (q : SqT K H a xs) : xs.length ≤ sizeLine := by
  rcases q with q | ⟨o, its, n, _, _, _, hz, r⟩
  · exact h.t a xs q
  · rw [r.length, Array.length_toList]; exact hz
theorem wpI_len {X : Cx} {tg iter : Expr} {σ : L2.St} {H : Hp} {R : It → Hp → Prop} (h : wpI X tg iter σ H fun J H' => LenOk H' → R J H') : wpI X tg iter σ H R := by
  unfold wpI at h ⊢
  exact fun pins s I =>
  thn (h pins s I) fun v s1 q => thn q fun u s2 ⟨it, fp, tn, J, H', a, b, c, d, e, f⟩ => ⟨it, fp, tn, J, H', a, b, c, d, e, f (LenOk.of b)⟩
theorem wpE_len {X : Cx} {e : Expr} {σ : L2.St} {H : Hp} {Q : VK} (h : wpE X e σ H fun v H' => LenOk H' → Q v H') : wpE X e σ H Q := by
  unfold wpE at h ⊢
  exact fun pins s I =>
  thn (h pins s I) fun u s' ⟨v, H', a, b, q⟩ => ⟨v, H', a, b, q (LenOk.of a)⟩
/-- the iterator J gives the items xs, while what is frozen now stays -/
def IterOk (K : PySem.W.Frag) (cA : Str → Addr) (G : Hp) (J : It) (xs : List α) : Prop :=
  (∀ H, Sub G H → LenOk H → xs.length ≤ sizeLine) ∧ ∃ (I : Hp → Prop) (Y : Nat → Hp → V → Hp → Prop), Walk J xs.length I Y ∧ (∀ H, Sub G H → I H) ∧
    ∀ (i : Nat) (x : α) (H1 : Hp) (v : V) (H2 G1 : Hp), xs[i]? = some x → Y i H1 v H2 → Sub G G1 → Sub G1 H1 → ∃ G2, Ext G1 H1 G2 H2 ∧ Rp K cA G2 v (enc x)
def PstI (c : Cfg) (G H : Hp) (σ : L2.St) (R : It → Hp → Prop) : M (List α) → Prop
  | .stuck => False
  | .ok xs => ∀ J G' H', Ext G H G' H' → IterOk c.K c.cA G' J xs → R J H'
  | .raise e => ∀ cls d G' H', Ext G H G' H' → ErrR c.K c.cA G' H' e cls d → c.W cls d σ H'
def CI (c : Cfg) (tg iter : Expr) (Γ : Fm) (L : Led) (m : M (List α)) : Prop :=
  ∀ (B G0 G H : Hp) (σ : L2.St) (R : It → Hp → Prop), Stt c.K c.cA B G0 G H σ Γ L → PstI c G H σ R m → wpI c.X tg iter σ H R
/-- the target takes an item; f: what the frame is then -/
def CG (c : Cfg) (tg : Expr) (f : α → Fm → Fm) (ws : List Nat) : Prop :=
  ∀ (B G0 G H : Hp) (σ : L2.St) (Γ : Fm) (L : Led) (v : V) (x : α) (Q : L2.St → Hp → Prop), Stt c.K c.cA B G0 G H σ Γ L → Rp c.K c.cA G v (enc x) →
    (∀ σ', Stt c.K c.cA B G0 G H σ' (f x Γ) L → (∀ us : List Nat, (∀ i ∈ ws, i ∈ us) → wipe σ' us = wipe σ us) → Q σ' H) → wpG c.X tg v σ H Q
theorem wipe_get (σ : L2.St) (k : Nat) : ∀ us : List Nat, (wipe σ us)[k]? = if k ∈ us then σ[k]?.map (fun _ => none) else σ[k]?
  | [] => by simp [wipe]
  | u :: us => by
    unfold wipe
    by_cases h : u = k
    · subst h
      rw [if_pos List.mem_cons_self]
      by_cases hl : u < σ.length
      · rw [List.getElem?_set_self (by rw [wipe_length]; exact hl), List.getElem?_eq_getElem hl]; rfl
      · rw [List.getElem?_eq_none (by rw [List.length_set, wipe_length]; omega), List.getElem?_eq_none (by omega)]; rfl
    · rw [List.getElem?_set_ne h, wipe_get σ k us]
      by_cases h2 : k ∈ us
      · rw [if_pos h2, if_pos (List.mem_cons_of_mem _ h2)]
      · rw [if_neg h2, if_neg (fun z => by rcases List.mem_cons.mp z with w | w; exact h w.symm; exact h2 w)]
theorem wipe_set {σ : L2.St} {i : Nat} {x : Option V} {us : List Nat} (h : i ∈ us) : wipe (σ.set i x) us = wipe σ us := by
  refine List.ext_getElem? fun k => ?_
  rw [wipe_get, wipe_get]
  by_cases hk : k ∈ us
  · rw [if_pos hk, if_pos hk]
    by_cases e : i = k
    · subst e
      by_cases hl : i < σ.length
      · rw [List.getElem?_set_self hl, List.getElem?_eq_getElem hl]; rfl
      · rw [List.getElem?_eq_none (by rw [List.length_set]; omega), List.getElem?_eq_none (by omega)]
    · rw [List.getElem?_set_ne e]
  · rw [if_neg hk, if_neg hk, List.getElem?_set_ne (fun e => hk (by rw [← e]; exact h))]
theorem cg_name {i : Nat} {x : Str} {pos : Pos} (nd : c.X.N.Nodup) (hi : c.X.N[i]? = some x := by rfl) (hl : Loc c.X.env.scope x := by first | exact Or.inl rfl | exact Or.inr rfl) (hf : c.X.fn x = true ∨ c.X.env.scope.names.lookup x = some .local := by first | exact .inl rfl | exact .inr rfl) :
    CG c (.Name x pos) (fun (y : α) Γ => Γ.set i (some (enc y))) [i] := fun B G0 G H σ Γ L v y Q s r q => wpG_of (pg_name nd hi hl hf) (q _ (s.set r) fun us hu => wipe_set (hu i List.mem_cons_self))
theorem cg_pair {t1 t2 : Expr} {k : Nat} {pos : Pos} {f : α → Fm → Fm} {g : β → Fm → Fm} {w1 w2 : List Nat} (hc : c.X.calm = true) (h1 : CG c t1 f w1) (h2 : CG c t2 g w2)
    (hs : (assignEach [t1, t2] c.X.env).map (·.2) = assign t1 c.X.env :: (assignEach [t2] c.X.env).map (·.2) := by rfl) (hs2 : (assignEach [t2] c.X.env).map (·.2) = assign t2 c.X.env :: (assignEach [] c.X.env).map (·.2) := by rfl)
    (hn : (assignEach [t1, t2] c.X.env).length = 2 := by rfl) (hst : (assignEach [t1, t2] c.X.env).findIdx? (·.1) = none := by rfl) : CG c (.Tuple [t1, t2] k pos) (fun (p : α × β) Γ => g p.2 (f p.1 Γ)) (w1 ++ w2) := fun B G0 G H σ Γ L v p Q s r q => by
  have r : Rp c.K c.cA G v (.tup [enc p.1, enc p.2]) := r
  cases r with
  | tup ht ha =>
    rename_i a vs
    cases ha with
    | cons r1 hb =>
      cases hb with
      | cons r2 hc' =>
        cases hc'
        refine wpG_of (pg_tup hc (pgs_cons pg_wp (pgs_cons pg_wp pgs_nil hs2) hs) hn hst) ⟨_, _, rfl, s.gh.st ht, rfl, _, _, rfl, ?_⟩
        refine h1 B G0 G H σ Γ L _ p.1 _ s r1 fun σ1 s1 z1 => ⟨_, _, rfl, ?_⟩
        exact h2 B G0 G H σ1 _ L _ p.2 _ s1 r2 fun σ2 s2 z2 => ⟨rfl, q σ2 s2 fun us hu => (z2 us fun i hi => hu i (List.mem_append_right _ hi)).trans (z1 us fun i hi => hu i (List.mem_append_left _ hi))⟩
theorem cg_trip {t1 t2 t3 : Expr} {k : Nat} {pos : Pos} {f : α → Fm → Fm} {g : β → Fm → Fm} {h : γ → Fm → Fm} {w1 w2 w3 : List Nat} (hc : c.X.calm = true) (h1 : CG c t1 f w1) (h2 : CG c t2 g w2) (h3 : CG c t3 h w3)
    (hs : (assignEach [t1, t2, t3] c.X.env).map (·.2) = assign t1 c.X.env :: (assignEach [t2, t3] c.X.env).map (·.2) := by rfl) (hs2 : (assignEach [t2, t3] c.X.env).map (·.2) = assign t2 c.X.env :: (assignEach [t3] c.X.env).map (·.2) := by rfl) (hs3 : (assignEach [t3] c.X.env).map (·.2) = assign t3 c.X.env :: (assignEach [] c.X.env).map (·.2) := by rfl)
    (hn : (assignEach [t1, t2, t3] c.X.env).length = 3 := by rfl) (hst : (assignEach [t1, t2, t3] c.X.env).findIdx? (·.1) = none := by rfl) : CG c (.Tuple [t1, t2, t3] k pos) (fun (p : T3 α β γ) Γ => h p.c (g p.b (f p.a Γ))) (w1 ++ (w2 ++ w3)) := fun B G0 G H σ Γ L v p Q s r q => by
  have r : Rp c.K c.cA G v (.tup [enc p.a, enc p.b, enc p.c]) := r
  cases r with
  | tup ht ha =>
    cases ha with
    | cons r1 hb =>
      cases hb with
      | cons r2 hc' =>
        cases hc' with
        | cons r3 hd =>
          cases hd
          refine wpG_of (pg_tup hc (pgs_cons pg_wp (pgs_cons pg_wp (pgs_cons pg_wp pgs_nil hs3) hs2) hs) hn hst) ⟨_, _, rfl, s.gh.st ht, rfl, _, _, rfl, ?_⟩
          refine h1 B G0 G H σ Γ L _ p.a _ s r1 fun σ1 s1 z1 => ⟨_, _, rfl, ?_⟩
          refine h2 B G0 G H σ1 _ L _ p.b _ s1 r2 fun σ2 s2 z2 => ⟨_, _, rfl, ?_⟩
          exact h3 B G0 G H σ2 _ L _ p.c _ s2 r3 fun σ3 s3 z3 => ⟨rfl, q σ3 s3 fun us hu => (z3 us fun i hi => hu i (List.mem_append_right _ (List.mem_append_right _ hi))).trans ((z2 us fun i hi => hu i (List.mem_append_right _ (List.mem_append_left _ hi))).trans (z1 us fun i hi => hu i (List.mem_append_left _ hi)))⟩
/-- a list, a tuple -/
theorem LenOk.sl {H : Hp} (h : LenOk H) {K : PySem.W.Frag} {a : Addr} {xs : List V} (q : SqL K H a xs) : xs.length ≤ sizeLine := by
  rcases q with q | ⟨o, its, n, _, _, _, _, hz, hv⟩
  · exact h.l a xs q
  · rw [hv.length]; simpa using hz
theorem iter_list {a : Addr} {vs : List V} {xs : List α} {K : PySem.W.Frag} {cA : Str → Addr} (h : SqL K G a vs) (r : RpAll K cA G vs (encL xs)) : IterOk K cA G (Itl K a) xs := by
  have hlen : vs.length = xs.length := by rw [r.length]; unfold encL; rw [List.length_map]
  refine ⟨fun H s l => by rw [← hlen]; exact l.sl (s.sl h), _, _, hlen ▸ walk_list (K := K) (a := a) (xs := vs), fun H s => s.sl h, fun i x H1 v H2 G1 hx hy sg s1 => ?_⟩
  obtain ⟨rfl, hv⟩ := hy
  obtain ⟨v', h1, h2⟩ := r.get (i := i) (d := enc x) (by unfold encL; rw [List.getElem?_map, hx]; rfl)
  rw [hv] at h1; cases h1
  exact ⟨G1, Ext.refl s1, h2.mono sg⟩
theorem iter_tup {a : Addr} {vs : List V} {xs : List α} {K : PySem.W.Frag} {cA : Str → Addr} (h : SqT K G a vs) (r : RpAll K cA G vs (encL xs)) : IterOk K cA G (Itt K a) xs := by
  have hlen : vs.length = xs.length := by rw [r.length]; unfold encL; rw [List.length_map]
  refine ⟨fun H s l => by rw [← hlen]; exact l.st (s.st h), _, _, hlen ▸ walk_tup (K := K) (a := a) (xs := vs), fun H s => s.st h, fun i x H1 v H2 G1 hx hy sg s1 => ?_⟩
  obtain ⟨rfl, hv⟩ := hy
  obtain ⟨v', h1, h2⟩ := r.get (i := i) (d := enc x) (by unfold encL; rw [List.getElem?_map, hx]; rfl)
  rw [hv] at h1; cases h1
  exact ⟨G1, Ext.refl s1, h2.mono sg⟩
theorem ci_list {tg e : Expr} {m : M (List α)} (h : CE c e Γ L m) : CI c tg e Γ L m := fun B G0 G H σ R s p => by
  refine wpI_of (pi_list pe_wp) ?_
  show wpE c.X e σ H fun x H1 => ∃ a, x = .ref a ∧ (∃ xs, SqL c.K H1 a xs) ∧ R (Itl c.K a) H1
  cases m with
  | stuck => exact p.elim
  | raise z => exact h B G0 G H σ _ s p
  | ok xs =>
    refine h B G0 G H σ _ s fun v G' H' e r => ?_
    have r : Rp c.K c.cA G' v (.lst (encL xs)) := r
    cases r with
    | lst hl ha => exact ⟨_, rfl, ⟨_, e.gh.sl hl⟩, p _ G' H' e (iter_list hl ha)⟩
theorem ci_tup {tg e : Expr} {m : M (Tup α)} (h : CE c e Γ L m) : CI c tg e Γ L (m.bind fun t => .ok t.l) := fun B G0 G H σ R s p => by
  refine wpI_of (pi_tup pe_wp) ?_
  show wpE c.X e σ H fun x H1 => ∃ a, x = .ref a ∧ (∃ xs, SqT c.K H1 a xs) ∧ R (Itt c.K a) H1
  cases m with
  | stuck => exact p.elim
  | raise z => exact h B G0 G H σ _ s p
  | ok xs =>
    refine h B G0 G H σ _ s fun v G' H' e r => ?_
    have r : Rp c.K c.cA G' v (.tup (encL xs.l)) := r
    cases r with
    | tup hl ha => exact ⟨_, rfl, ⟨_, e.gh.st hl⟩, p _ G' H' e (iter_tup hl ha)⟩
/-- range(n), range(a, b) -/
def rangeL (a b : Int) : List Int := (List.range (b - a).toNat).map fun (i : Nat) => a + i
theorem iter_range {K : PySem.W.Frag} {cA : Str → Addr} {a b : Int} (hz : b - a ≤ 16777216) : IterOk K cA G (Itr a (b - a).toNat) (rangeL a b) := by
  have hlen : (rangeL a b).length = (b - a).toNat := by unfold rangeL; rw [List.length_map, List.length_range]
  refine ⟨fun _ _ _ => by rw [hlen, show (sizeLine : Nat) = 16777216 by decide]; omega, _, _, by rw [hlen]; exact walk_range (lo := a) (n := (b - a).toNat), fun _ _ => trivial, fun i x H1 v H2 G1 hx hy sg s1 => ?_⟩
  obtain ⟨rfl, rfl⟩ := hy
  unfold rangeL at hx
  rw [List.getElem?_map] at hx
  have hi : i < (b - a).toNat := by
    refine Nat.lt_of_not_le fun z => ?_
    rw [List.getElem?_eq_none (by rw [List.length_range]; exact z)] at hx
    cases hx
  rw [List.getElem?_range hi] at hx
  cases hx
  exact ⟨G1, Ext.refl s1, .int _⟩
def inR (a b : Int) : Bool := decide (-4611686018427387904 ≤ a ∧ a < 4611686018427387904 ∧ -4611686018427387904 ≤ b ∧ b < 4611686018427387904 ∧ b - a ≤ 16777216)
theorem inR_ok {a b : Int} (h : inR a b = true) : (-(2 ^ 62) ≤ a ∧ a < 2 ^ 62 ∧ -(2 ^ 62) ≤ b ∧ b < 2 ^ 62) ∧ b - a ≤ 16777216 := by
  have h := of_decide_eq_true h
  have e : (2 : Int) ^ 62 = 4611686018427387904 := by decide
  rw [e]; exact ⟨⟨h.1, h.2.1, h.2.2.1, h.2.2.2.1⟩, h.2.2.2.2⟩
theorem ci_range1 {tg a : Expr} {p pos : Pos} {m : M Int} (ha : CE c a Γ L m) (hg : Gl c.X "range") (hm : c.X.mg "range" = none) (hs1 : starEach [a] c.X.env = [(false, eval a c.X.env)] := by rfl) (hs : starEach [a] c.X.env = (false, eval a c.X.env) :: starEach [] c.X.env := by rfl) :
    CI c tg (.Call (.Name "range" p) [a] [] pos) Γ L (m.bind fun n => M.need (inR 0 n) (.ok (rangeL 0 n))) := fun B G0 G H σ R s q => by
  refine wpI_of (pi_range1 hg hm (pa_cons pe_wp pa_nil hs) hs1) ?_
  refine ha.then (P := PstI c G H σ R) s q (fun z => z) (fun e z => z) fun n v G1 H1 q e1 s1 r1 => ?_
  cases r1
  have hb : inR 0 n = true := by
    cases hh : inR 0 n with
    | true => rfl
    | false => rw [hh] at q; exact q.elim
  rw [M.need_true _ hb] at q
  obtain ⟨⟨_, _, h1, h2⟩, hz⟩ := inR_ok hb
  refine ⟨n, rfl, h1, h2, q _ G1 H1 e1 ?_⟩
  have := iter_range (K := c.K) (cA := c.cA) (G := G1) (a := 0) (b := n) hz
  rwa [Int.sub_zero] at this
theorem ci_range2 {tg a b : Expr} {p pos : Pos} {ma mb : M Int} (ha : CE c a Γ L ma) (hb : CE c b Γ L mb) (hg : Gl c.X "range") (hm : c.X.mg "range" = none) (hs : starEach [a, b] c.X.env = [(false, eval a c.X.env), (false, eval b c.X.env)] := by rfl) (hs2 : starEach [b] c.X.env = [(false, eval b c.X.env)] := by rfl)
    (h1 : starEach [a, b] c.X.env = (false, eval a c.X.env) :: starEach [b] c.X.env := by rfl) (h2 : starEach [b] c.X.env = (false, eval b c.X.env) :: starEach [] c.X.env := by rfl) :
    CI c tg (.Call (.Name "range" p) [a, b] [] pos) Γ L (ma.bind fun x => mb.bind fun y => M.need (inR x y) (.ok (rangeL x y))) := fun B G0 G H σ R s q => by
  refine wpI_of (pi_range2 hg hm (pa_cons pe_wp (pa_cons pe_wp pa_nil h2) h1) hs hs2) ?_
  refine ha.then (P := PstI c G H σ R) s q (fun z => z) (fun e z => z) fun x v G1 H1 q e1 s1 r1 => ?_
  have q : PstI c G1 H1 σ R (mb.bind fun y => M.need (inR x y) (.ok (rangeL x y))) := by
    revert q
    generalize (mb.bind fun y => M.need (inR x y) (.ok (rangeL x y))) = z
    intro q
    cases z with
    | stuck => exact q
    | ok xs => exact fun J G' H' e i => q J G' H' (e1.trans e) i
    | raise z => exact fun cls d G' H' e r => q cls d G' H' (e1.trans e) r
  refine hb.then (P := PstI c G1 H1 σ R) s1 q (fun z => z) (fun e z => z) fun y u G2 H2 q e2 s2 r2 => ?_
  cases r1
  cases r2
  have hb : inR x y = true := by
    cases hh : inR x y with
    | true => rfl
    | false => rw [hh] at q; exact q.elim
  rw [M.need_true _ hb] at q
  obtain ⟨hq, hz⟩ := inR_ok hb
  exact ⟨x, y, rfl, hq, q _ G2 H2 e2 (iter_range hz)⟩

/-! ### for, while -/
theorem cs_for {S : Type} {tg iter : Expr} {body : List Stmt} {pos : Pos} {mi : M (List α)} {f : α → Fm → Fm} {ws : List Nat} {mb : S → α → M (Fl S O)} {k : S → M O} {s0 : S} (fr : S → List Addr → Fm) (lr : S → List Addr → Led) (hp : PassesOwn (model c.X.prog c.X.w) c.X.A c.X.env c.X.xe) (hc : c.X.calm = true) (hi : CI c tg iter Γ L mi) (hg : CG c tg f ws)
    (hb : ∀ s as x, CS c xf xl body (f x (fr s as)) (lr s as) (Fl.kap κ fr lr) (mb s x)) (hr : ∀ s as, CS c xf xl rest (fr s as) (lr s as) κ (k s)) (as0 : List Addr) (w : Wk Γ L (fr s0 as0) (lr s0 as0)) (hs : ∀ x, foldedSetIterable iter c.X.env x = pure x := by intro _; rfl) (hx : Wk Γ L xf xl := by exact wk_no rfl) :
    CS c xf xl (.For tg iter body [] pos :: rest) Γ L κ (mi.bind fun xs => (loopM mb s0 xs).bind fun j => j.then k) := fun B G0 G H σ D s p => by
  refine wpSs_of (pss_cons (ps_for hp hc pi_wp pg_wp pss_wp hs) pss_wp) ?_
  show wpI c.X tg iter σ H _
  cases mi with
  | stuck => exact p.elim
  | raise z => exact hi B G0 G H σ _ s fun cls d G' H' e r => p cls d G' H' σ ((s.exts e).wk hx) r
  | ok xs =>
    refine hi B G0 G H σ _ s fun J G' H' e io => ?_
    obtain ⟨_, I, Y, wk, hI, hY⟩ := io
    have s' : Stt c.K c.cA B G0 G' H' σ (fr s0 as0) (lr s0 as0) := (s.exts e).wk w
    have p := PstS.base s' p
    generalize hD : ({ D with nx := wpSs c.X rest D } : Ends) = D'
    refine for_it wk (D := D') (fun i σ H => ∃ z as G, Stt c.K c.cA B G' G H σ (fr z as) (lr z as) ∧ PstS c B G' xf xl D κ ((loopM mb z (xs.drop i)).bind fun j => j.then k)) ⟨s0, as0, G', s'.self, by rw [List.drop_zero]; exact p⟩ ?_ ?_ ?_
    · rintro i σ H hi ⟨z, as, G, st, _⟩
      exact hI H (st.g0.trans st.gh)
    · rintro i v σ1 H1 H2 hi ⟨z, as, G1, st, pz⟩ hy
      obtain ⟨G2, e2, r2⟩ := hY i xs[i] H1 v H2 G1 (List.getElem?_eq_getElem hi) hy st.g0 st.gh
      rw [List.drop_eq_getElem_cons hi] at pz
      refine hg B G' G2 H2 σ1 _ _ v xs[i] _ (st.exts e2) r2 fun σ2 s2 _ => ?_
      refine hb z as xs[i] B G' G2 H2 σ2 _ s2 ?_
      unfold loopM at pz
      cases hm : mb z xs[i] with
      | stuck => rw [hm] at pz; exact pz
      | raise q => rw [hm] at pz; exact pz
      | ok o =>
        rw [hm] at pz
        cases o with
        | nx z' => exact fun as' G3 H3 σ3 s3 => ⟨z', as', G3, s3, pz⟩
        | ct z' => exact fun as' G3 H3 σ3 s3 => ⟨z', as', G3, s3, pz⟩
        | bk z' =>
          intro as' G3 H3 σ3 s3
          show D'.nx σ3 H3
          rw [← hD]
          exact hr z' as' B G' G3 H3 σ3 D s3 pz
        | out o =>
          refine Dlv.exl (D := D) ?_ pz
          rw [← hD]
    · rintro σ1 H1 ⟨z, as, G1, st, pz⟩
      rw [List.drop_length] at pz
      rw [← hD]
      exact hr z as B G' G1 H1 σ1 D st pz
theorem cs_for1 {S : Type} {tg iter : Expr} {body : List Stmt} {pos : Pos} {mi : M (List α)} {f : α → Fm → Fm} {ws : List Nat} {mb : S → α → M S} {k : S → M O} {s0 : S} (fr : S → List Addr → Fm) (lr : S → List Addr → Led) (hp : PassesOwn (model c.X.prog c.X.w) c.X.A c.X.env c.X.xe) (hc : c.X.calm = true) (hi : CI c tg iter Γ L mi) (hg : CG c tg f ws)
    (hb : ∀ s as x, CS c xf xl body (f x (fr s as)) (lr s as) (goK fr lr) (mb s x)) (hr : ∀ s as, CS c xf xl rest (fr s as) (lr s as) κ (k s)) (as0 : List Addr) (w : Wk Γ L (fr s0 as0) (lr s0 as0)) (hs : ∀ x, foldedSetIterable iter c.X.env x = pure x := by intro _; rfl) (hx : Wk Γ L xf xl := by exact wk_no rfl) :
    CS c xf xl (.For tg iter body [] pos :: rest) Γ L κ (mi.bind fun xs => (foldM mb s0 xs).bind k) := by
  have h := cs_for (pos := pos) (κ := κ) (O := O) (mb := fun s x => flNx (mb s x)) fr lr hp hc hi hg (fun s as x B G0 G H σ D st p => hb s as x B G0 G H σ D st (by
    cases hm : mb s x with
    | stuck => rw [hm] at p; exact p
    | raise e => rw [hm] at p; exact p
    | ok s' => rw [hm] at p; exact p)) hr as0 w hs hx
  have e : (fun xs => (loopM (O := O) (fun s x => flNx (mb s x)) s0 xs).bind fun j => j.then k) = fun xs => (foldM mb s0 xs).bind k := by
    funext xs
    rw [loopM_fold, jnGo_then]
  rw [e] at h
  exact h
theorem cs_while {S : Type} {t : Expr} {body : List Stmt} {pos : Pos} {mc : S → M Bool} {mb : S → M (Fl S O)} {k : S → M O} {s0 : S} (n : Nat) (fr : S → List Addr → Fm) (lr : S → List Addr → Led) (hp : PassesOwn (model c.X.prog c.X.w) c.X.A c.X.env c.X.xe) (ht : ∀ s as, CT c t (fr s as) (lr s as) (mc s))
    (hb : ∀ s as, CS c xf xl body (fr s as) (lr s as) (Fl.kap κ fr lr) (mb s)) (hr : ∀ s as, CS c xf xl rest (fr s as) (lr s as) κ (k s)) (as0 : List Addr) (w : Wk Γ L (fr s0 as0) (lr s0 as0)) (hx : ∀ s as, Wk (fr s as) (lr s as) xf xl := by intro _ _; exact wk_no rfl) :
    CS c xf xl (.While t body [] pos :: rest) Γ L κ ((whileM mc mb n s0).bind fun j => j.then k) := fun B G0 G H σ D s p => by
  refine wpSs_of (pss_cons (ps_while hp pt_wp pss_wp) pss_wp) ?_
  refine ⟨fun i σ H => ∃ z as G, Stt c.K c.cA B G0 G H σ (fr z as) (lr z as) ∧ PstS c B G0 xf xl D κ ((whileM mc mb i z).bind fun j => j.then k), ⟨n, s0, as0, G, s.wk w, p⟩, ?_⟩
  rintro i σ1 H1 ⟨z, as, G1, st, pz⟩
  cases i with
  | zero => exact pz.elim
  | succ i =>
    unfold whileM at pz
    rw [M.bind_assoc] at pz
    refine (ht z as).then (P := PstS c B G0 xf xl D κ) st pz (fun z => z) (fun e q => PstS.raiseT st (hx z as) q) fun x G2 H2 p2 e2 s2 => ?_
    cases x with
    | false =>
      show wpSs c.X rest D σ1 H2
      exact hr z as B G0 G2 H2 σ1 D s2 p2
    | true =>
      refine ⟨fun σ' H' => ∃ z' as' G', Stt c.K c.cA B G0 G' H' σ' (fr z' as') (lr z' as') ∧ PstS c B G0 xf xl D κ ((whileM mc mb i z').bind fun j => j.then k), fun σ' H' q => ⟨i, Nat.lt_succ_self i, q⟩, ?_⟩
      refine hb z as B G0 G2 H2 σ1 _ s2 ?_
      have p2 : PstS c B G0 xf xl D κ (((mb z).bind fun o => o.on fun s' => whileM mc mb i s').bind fun j => j.then k) := p2
      cases hm : mb z with
      | stuck => rw [hm] at p2; exact p2
      | raise q => rw [hm] at p2; exact p2
      | ok o =>
        rw [hm] at p2
        cases o with
        | nx z' => exact fun as' G3 H3 σ3 s3 => ⟨z', as', G3, s3, p2⟩
        | ct z' => exact fun as' G3 H3 σ3 s3 => ⟨z', as', G3, s3, p2⟩
        | bk z' =>
          intro as' G3 H3 σ3 s3
          show wpSs c.X rest D σ3 H3
          exact hr z' as' B G0 G3 H3 σ3 D s3 p2
        | out o =>
          exact Dlv.exl (D := D) rfl p2
theorem cs_while1 {S : Type} {t : Expr} {body : List Stmt} {pos : Pos} {mc : S → M Bool} {mb : S → M S} {k : S → M O} {s0 : S} (n : Nat) (fr : S → List Addr → Fm) (lr : S → List Addr → Led) (hp : PassesOwn (model c.X.prog c.X.w) c.X.A c.X.env c.X.xe) (ht : ∀ s as, CT c t (fr s as) (lr s as) (mc s))
    (hb : ∀ s as, CS c xf xl body (fr s as) (lr s as) (goK fr lr) (mb s)) (hr : ∀ s as, CS c xf xl rest (fr s as) (lr s as) κ (k s)) (as0 : List Addr) (w : Wk Γ L (fr s0 as0) (lr s0 as0)) (hx : ∀ s as, Wk (fr s as) (lr s as) xf xl := by intro _ _; exact wk_no rfl) :
    CS c xf xl (.While t body [] pos :: rest) Γ L κ ((whileS mc mb n s0).bind k) := by
  have h := cs_while (pos := pos) (κ := κ) (O := O) (mb := fun s => flNx (mb s)) n fr lr hp ht (fun s as B G0 G H σ D st p => hb s as B G0 G H σ D st (by
    cases hm : mb s with
    | stuck => rw [hm] at p; exact p
    | raise e => rw [hm] at p; exact p
    | ok s' => rw [hm] at p; exact p)) hr as0 w hx
  rw [whileM_S, jnGo_then] at h
  exact h
end
end Pf

/-! P6: what a def is worth; calls. (printed by gen6.py) -/
namespace Pf
open PySem PySem.Spec L2
open PyProof.Rows hiding St

def encM {β : Type} [Enc β] (m : M β) : M D := m.bind fun z => .ok (enc z)
def PstD (K : PySem.W.Frag) (cA : Str → Addr) (G H : Hp) (Q : VK) (E : XK) : M D → Prop
  | .stuck => False
  | .ok d => ∀ v G' H', Ext G H G' H' → Rp K cA G' v d → Q v H'
  | .raise e => ∀ cls d G' H', Ext G H G' H' → ErrR K cA G' H' e cls d → E cls d H'
/-- called with data ds such that R ds m, it comes to m -/
def SpF (K : PySem.W.Frag) (cA : Str → Addr) (R : List D → M D → Prop) : Sp := fun vs H Q E => ∃ G ds m, R ds m ∧ Sub G H ∧ RpAll K cA G vs ds ∧ PstD K cA G H Q E m
theorem pstD_of {c : Cfg} {G H : Hp} {σ : L2.St} {Q : VK} {β : Type} [Enc β] {m : M β} (p : Pst c G H σ Q m) : PstD c.K c.cA G H Q (WE c.W σ) (encM m) := by
  cases m with
  | stuck => exact p
  | ok z => exact p
  | raise e => exact p
abbrev cfgOf (cA : Str → Addr) (P : Program) (w : World) (K : PySem.W.Frag) (mg : Str → Option Value) (base : Heap) (N : List Str) (qual : Str) (scope : Scope) (f : Addr) (cdv : Value) (A : Around) (outer : List Env) (s : Shared) (H : Hp) (E : XK) : Cfg :=
  ⟨cxOf (L2.CX P w) P w K mg base N qual scope f cdv A outer s H E, cA, fun cls d _ H' => E cls d H'⟩
/-- the frame at the start -/
def inFm (N : List Str) (ds : List D) : Fm := ds.map some ++ List.replicate (N.length - ds.length) none
theorem stt_start {K : PySem.W.Frag} {cA : Str → Addr} {G H : Hp} {N : List Str} {vs : List V} {ds : List D} (s : Sub G H) (r : RpAll K cA G vs ds) : Stt K cA H G G H (L2.start N vs) (inFm N ds) [] where
  gh := s
  bh := Sub.refl H
  g0 := Sub.refl G
  bg := fun _ _ => rfl
  len := by unfold L2.start inFm; rw [List.length_append, List.length_append, List.length_map, List.length_map, List.length_replicate, List.length_replicate, r.length]
  slot := fun i d h => by
    unfold inFm at h
    rw [List.getElem?_append] at h
    rw [List.length_map] at h
    by_cases hi : i < ds.length
    · rw [if_pos hi, List.getElem?_map] at h
      cases hd : ds[i]? with
      | none => rw [hd] at h; cases h
      | some d' =>
        rw [hd] at h
        cases h
        obtain ⟨v, hv, rv⟩ := r.get hd
        refine ⟨v, ?_, rv⟩
        unfold L2.start
        rw [List.getElem?_append_left (by rw [List.length_map, r.length]; exact hi), List.getElem?_map, hv]
        rfl
    · rw [if_neg hi, List.getElem?_replicate] at h
      split at h <;> cases h
  nd := List.nodup_nil
  cell := fun p c h => by cases h
def Outc.isRt (o : Outc) (d : D) (L : Led) : Prop := o = .rt d L
section
variable {P : Program} {w : World} {K : PySem.W.Frag} {mg : Str → Option Value} {base : Heap} {x qual : Str} {params : Arguments} {body : List Stmt} {scope : Scope} {dvs : List V} {kws : List (Str × V)} {f : Addr} {fd : FuncData}
/-- a def is worth what its body comes to -/
theorem fn_ok {cA : Str → Addr} {N ps : List Str} {k : Nat} {R : List D → M D → Prop} (F : FunD K x qual params body scope dvs kws f fd) (S : FnScope N ps scope) (hR : ∀ ds m, R ds m → ds.length = ps.length)
    (h : ∀ (cdv : Value) (A : Around) (outer : List Env) (s : Shared) (H : Hp) (E : XK), Room k (A.deeper (envOfC qual scope s.heap.objs.size f cdv)) → ∀ ds m, R ds m →
      CS (cfgOf cA P w K mg base N qual scope f cdv A outer s H E) (noFm N.length) [] body (inFm N ds) [] (fun d => .fin d []) m) : FnOk P w K mg base (L2.CX P w) (k + 1) f fd ps (SpF K cA R) := by
  refine F.ok S (fun vs H Q E h => ?_) (fun cdv A outer s H vs Q E hr hsp => ⟨wpSs _ body, pss_wp, ?_⟩)
  · obtain ⟨G, ds, m, r, _, rp, _⟩ := h
    rw [rp.length, hR ds m r]
  · obtain ⟨G, ds, m, r, sg, rp, p⟩ := hsp
    refine h cdv A outer s H E hr ds m r H G G H (L2.start N vs) { nx := fun _ H' => Q .non H', rt := Q } (stt_start sg rp) ?_
    have fin : ∀ {G' H' : Hp} {σ : L2.St} {Γ : Fm} {L : Led}, Stt K cA H G G' H' σ Γ L → Ext G H G' H' := fun s => ⟨s.g0, s.gh, s.bh, s.bg⟩
    cases m with
    | stuck => exact p
    | raise e => exact fun cls d G' H' σ' s r => p cls d G' H' (fin s) r
    | ok d => exact ⟨fun v G' H' σ Γ s r => p v G' H' (fin s) r, fun e G' H' σ Γ s => p .non G' H' (fin s) (by rw [e]; exact .non)⟩
end

section
def Fv0 {β : Type}  [Enc β] (f : M β) : List D → M D → Prop := fun ds m => ds = [] ∧ m = encM f
def Fv1 {t1 β : Type} [Enc t1] [Enc β] (f : t1 → M β) : List D → M D → Prop := fun ds m => ∃ x1, ds = [enc x1] ∧ m = encM (f x1)
def Fv2 {t1 t2 β : Type} [Enc t1] [Enc t2] [Enc β] (f : t1 → t2 → M β) : List D → M D → Prop := fun ds m => ∃ x1 x2, ds = [enc x1, enc x2] ∧ m = encM (f x1 x2)
def Fv3 {t1 t2 t3 β : Type} [Enc t1] [Enc t2] [Enc t3] [Enc β] (f : t1 → t2 → t3 → M β) : List D → M D → Prop := fun ds m => ∃ x1 x2 x3, ds = [enc x1, enc x2, enc x3] ∧ m = encM (f x1 x2 x3)
def Fv4 {t1 t2 t3 t4 β : Type} [Enc t1] [Enc t2] [Enc t3] [Enc t4] [Enc β] (f : t1 → t2 → t3 → t4 → M β) : List D → M D → Prop := fun ds m => ∃ x1 x2 x3 x4, ds = [enc x1, enc x2, enc x3, enc x4] ∧ m = encM (f x1 x2 x3 x4)
def Fv5 {t1 t2 t3 t4 t5 β : Type} [Enc t1] [Enc t2] [Enc t3] [Enc t4] [Enc t5] [Enc β] (f : t1 → t2 → t3 → t4 → t5 → M β) : List D → M D → Prop := fun ds m => ∃ x1 x2 x3 x4 x5, ds = [enc x1, enc x2, enc x3, enc x4, enc x5] ∧ m = encM (f x1 x2 x3 x4 x5)
def Fv6 {t1 t2 t3 t4 t5 t6 β : Type} [Enc t1] [Enc t2] [Enc t3] [Enc t4] [Enc t5] [Enc t6] [Enc β] (f : t1 → t2 → t3 → t4 → t5 → t6 → M β) : List D → M D → Prop := fun ds m => ∃ x1 x2 x3 x4 x5 x6, ds = [enc x1, enc x2, enc x3, enc x4, enc x5, enc x6] ∧ m = encM (f x1 x2 x3 x4 x5 x6)
def Fv7 {t1 t2 t3 t4 t5 t6 t7 β : Type} [Enc t1] [Enc t2] [Enc t3] [Enc t4] [Enc t5] [Enc t6] [Enc t7] [Enc β] (f : t1 → t2 → t3 → t4 → t5 → t6 → t7 → M β) : List D → M D → Prop := fun ds m => ∃ x1 x2 x3 x4 x5 x6 x7, ds = [enc x1, enc x2, enc x3, enc x4, enc x5, enc x6, enc x7] ∧ m = encM (f x1 x2 x3 x4 x5 x6 x7)
def Fv8 {t1 t2 t3 t4 t5 t6 t7 t8 β : Type} [Enc t1] [Enc t2] [Enc t3] [Enc t4] [Enc t5] [Enc t6] [Enc t7] [Enc t8] [Enc β] (f : t1 → t2 → t3 → t4 → t5 → t6 → t7 → t8 → M β) : List D → M D → Prop := fun ds m => ∃ x1 x2 x3 x4 x5 x6 x7 x8, ds = [enc x1, enc x2, enc x3, enc x4, enc x5, enc x6, enc x7, enc x8] ∧ m = encM (f x1 x2 x3 x4 x5 x6 x7 x8)
end
section
variable {P : Program} {w : World} {K : PySem.W.Frag} {mg : Str → Option Value} {base : Heap} {x qual : Str} {params : Arguments} {body : List Stmt} {scope : Scope} {dvs : List V} {kws : List (Str × V)} {f : Addr} {fd : FuncData} {cA : Str → Addr} {N ps : List Str} {k : Nat}
theorem cs_encM {O : Type} [Enc O] {c : Cfg} {xf Γ : Fm} {xl L : Led} {sts : List Stmt} {m : M O} (h : CS c xf xl sts Γ L (fun z => .fin (enc z) []) m) : CS c xf xl sts Γ L (fun d => .fin d []) (encM m) := fun B G0 G H σ D s p => h B G0 G H σ D s (by
  cases m with
  | stuck => exact p
  | raise e => exact p
  | ok z => exact p)
theorem fn_ok0 {β : Type}  [Enc β] {g : M β} (F : FunD K x qual params body scope dvs kws f fd) (S : FnScope N ps scope) (hn : ps.length = 0)
    (h : ∀ (cdv : Value) (A : Around) (outer : List Env) (s : Shared) (H : Hp) (E : XK), Room k (A.deeper (envOfC qual scope s.heap.objs.size f cdv)) → 
      CS (cfgOf cA P w K mg base N qual scope f cdv A outer s H E) (noFm N.length) [] body (inFm N []) [] (fun z => .fin (enc z) []) g) : FnOk P w K mg base (L2.CX P w) (k + 1) f fd ps (SpF K cA (Fv0 g)) := by
  refine fn_ok F S (fun ds m r => ?_) fun cdv A outer s H E hr ds m r => ?_
  · obtain ⟨rfl, rfl⟩ := r
    rw [hn]; rfl
  · obtain ⟨rfl, rfl⟩ := r
    exact cs_encM (h cdv A outer s H E hr)
theorem fn_ok1 {t1 β : Type} [Enc t1] [Enc β] {g : t1 → M β} (F : FunD K x qual params body scope dvs kws f fd) (S : FnScope N ps scope) (hn : ps.length = 1)
    (h : ∀ (cdv : Value) (A : Around) (outer : List Env) (s : Shared) (H : Hp) (E : XK), Room k (A.deeper (envOfC qual scope s.heap.objs.size f cdv)) → ∀ (x1 : t1), 
      CS (cfgOf cA P w K mg base N qual scope f cdv A outer s H E) (noFm N.length) [] body (inFm N [enc x1]) [] (fun z => .fin (enc z) []) (g x1)) : FnOk P w K mg base (L2.CX P w) (k + 1) f fd ps (SpF K cA (Fv1 g)) := by
  refine fn_ok F S (fun ds m r => ?_) fun cdv A outer s H E hr ds m r => ?_
  · obtain ⟨x1, rfl, rfl⟩ := r
    rw [hn]; rfl
  · obtain ⟨x1, rfl, rfl⟩ := r
    exact cs_encM (h cdv A outer s H E hr x1)
theorem fn_ok2 {t1 t2 β : Type} [Enc t1] [Enc t2] [Enc β] {g : t1 → t2 → M β} (F : FunD K x qual params body scope dvs kws f fd) (S : FnScope N ps scope) (hn : ps.length = 2)
    (h : ∀ (cdv : Value) (A : Around) (outer : List Env) (s : Shared) (H : Hp) (E : XK), Room k (A.deeper (envOfC qual scope s.heap.objs.size f cdv)) → ∀ (x1 : t1), ∀ (x2 : t2), 
      CS (cfgOf cA P w K mg base N qual scope f cdv A outer s H E) (noFm N.length) [] body (inFm N [enc x1, enc x2]) [] (fun z => .fin (enc z) []) (g x1 x2)) : FnOk P w K mg base (L2.CX P w) (k + 1) f fd ps (SpF K cA (Fv2 g)) := by
  refine fn_ok F S (fun ds m r => ?_) fun cdv A outer s H E hr ds m r => ?_
  · obtain ⟨x1, x2, rfl, rfl⟩ := r
    rw [hn]; rfl
  · obtain ⟨x1, x2, rfl, rfl⟩ := r
    exact cs_encM (h cdv A outer s H E hr x1 x2)
theorem fn_ok3 {t1 t2 t3 β : Type} [Enc t1] [Enc t2] [Enc t3] [Enc β] {g : t1 → t2 → t3 → M β} (F : FunD K x qual params body scope dvs kws f fd) (S : FnScope N ps scope) (hn : ps.length = 3)
    (h : ∀ (cdv : Value) (A : Around) (outer : List Env) (s : Shared) (H : Hp) (E : XK), Room k (A.deeper (envOfC qual scope s.heap.objs.size f cdv)) → ∀ (x1 : t1), ∀ (x2 : t2), ∀ (x3 : t3), 
      CS (cfgOf cA P w K mg base N qual scope f cdv A outer s H E) (noFm N.length) [] body (inFm N [enc x1, enc x2, enc x3]) [] (fun z => .fin (enc z) []) (g x1 x2 x3)) : FnOk P w K mg base (L2.CX P w) (k + 1) f fd ps (SpF K cA (Fv3 g)) := by
  refine fn_ok F S (fun ds m r => ?_) fun cdv A outer s H E hr ds m r => ?_
  · obtain ⟨x1, x2, x3, rfl, rfl⟩ := r
    rw [hn]; rfl
  · obtain ⟨x1, x2, x3, rfl, rfl⟩ := r
    exact cs_encM (h cdv A outer s H E hr x1 x2 x3)
theorem fn_ok4 {t1 t2 t3 t4 β : Type} [Enc t1] [Enc t2] [Enc t3] [Enc t4] [Enc β] {g : t1 → t2 → t3 → t4 → M β} (F : FunD K x qual params body scope dvs kws f fd) (S : FnScope N ps scope) (hn : ps.length = 4)
    (h : ∀ (cdv : Value) (A : Around) (outer : List Env) (s : Shared) (H : Hp) (E : XK), Room k (A.deeper (envOfC qual scope s.heap.objs.size f cdv)) → ∀ (x1 : t1), ∀ (x2 : t2), ∀ (x3 : t3), ∀ (x4 : t4), 
      CS (cfgOf cA P w K mg base N qual scope f cdv A outer s H E) (noFm N.length) [] body (inFm N [enc x1, enc x2, enc x3, enc x4]) [] (fun z => .fin (enc z) []) (g x1 x2 x3 x4)) : FnOk P w K mg base (L2.CX P w) (k + 1) f fd ps (SpF K cA (Fv4 g)) := by
  refine fn_ok F S (fun ds m r => ?_) fun cdv A outer s H E hr ds m r => ?_
  · obtain ⟨x1, x2, x3, x4, rfl, rfl⟩ := r
    rw [hn]; rfl
  · obtain ⟨x1, x2, x3, x4, rfl, rfl⟩ := r
    exact cs_encM (h cdv A outer s H E hr x1 x2 x3 x4)
theorem fn_ok5 {t1 t2 t3 t4 t5 β : Type} [Enc t1] [Enc t2] [Enc t3] [Enc t4] [Enc t5] [Enc β] {g : t1 → t2 → t3 → t4 → t5 → M β} (F : FunD K x qual params body scope dvs kws f fd) (S : FnScope N ps scope) (hn : ps.length = 5)
    (h : ∀ (cdv : Value) (A : Around) (outer : List Env) (s : Shared) (H : Hp) (E : XK), Room k (A.deeper (envOfC qual scope s.heap.objs.size f cdv)) → ∀ (x1 : t1), ∀ (x2 : t2), ∀ (x3 : t3), ∀ (x4 : t4), ∀ (x5 : t5), 
      CS (cfgOf cA P w K mg base N qual scope f cdv A outer s H E) (noFm N.length) [] body (inFm N [enc x1, enc x2, enc x3, enc x4, enc x5]) [] (fun z => .fin (enc z) []) (g x1 x2 x3 x4 x5)) : FnOk P w K mg base (L2.CX P w) (k + 1) f fd ps (SpF K cA (Fv5 g)) := by
  refine fn_ok F S (fun ds m r => ?_) fun cdv A outer s H E hr ds m r => ?_
  · obtain ⟨x1, x2, x3, x4, x5, rfl, rfl⟩ := r
    rw [hn]; rfl
  · obtain ⟨x1, x2, x3, x4, x5, rfl, rfl⟩ := r
    exact cs_encM (h cdv A outer s H E hr x1 x2 x3 x4 x5)
theorem fn_ok6 {t1 t2 t3 t4 t5 t6 β : Type} [Enc t1] [Enc t2] [Enc t3] [Enc t4] [Enc t5] [Enc t6] [Enc β] {g : t1 → t2 → t3 → t4 → t5 → t6 → M β} (F : FunD K x qual params body scope dvs kws f fd) (S : FnScope N ps scope) (hn : ps.length = 6)
    (h : ∀ (cdv : Value) (A : Around) (outer : List Env) (s : Shared) (H : Hp) (E : XK), Room k (A.deeper (envOfC qual scope s.heap.objs.size f cdv)) → ∀ (x1 : t1), ∀ (x2 : t2), ∀ (x3 : t3), ∀ (x4 : t4), ∀ (x5 : t5), ∀ (x6 : t6), 
      CS (cfgOf cA P w K mg base N qual scope f cdv A outer s H E) (noFm N.length) [] body (inFm N [enc x1, enc x2, enc x3, enc x4, enc x5, enc x6]) [] (fun z => .fin (enc z) []) (g x1 x2 x3 x4 x5 x6)) : FnOk P w K mg base (L2.CX P w) (k + 1) f fd ps (SpF K cA (Fv6 g)) := by
  refine fn_ok F S (fun ds m r => ?_) fun cdv A outer s H E hr ds m r => ?_
  · obtain ⟨x1, x2, x3, x4, x5, x6, rfl, rfl⟩ := r
    rw [hn]; rfl
  · obtain ⟨x1, x2, x3, x4, x5, x6, rfl, rfl⟩ := r
    exact cs_encM (h cdv A outer s H E hr x1 x2 x3 x4 x5 x6)
theorem fn_ok7 {t1 t2 t3 t4 t5 t6 t7 β : Type} [Enc t1] [Enc t2] [Enc t3] [Enc t4] [Enc t5] [Enc t6] [Enc t7] [Enc β] {g : t1 → t2 → t3 → t4 → t5 → t6 → t7 → M β} (F : FunD K x qual params body scope dvs kws f fd) (S : FnScope N ps scope) (hn : ps.length = 7)
    (h : ∀ (cdv : Value) (A : Around) (outer : List Env) (s : Shared) (H : Hp) (E : XK), Room k (A.deeper (envOfC qual scope s.heap.objs.size f cdv)) → ∀ (x1 : t1), ∀ (x2 : t2), ∀ (x3 : t3), ∀ (x4 : t4), ∀ (x5 : t5), ∀ (x6 : t6), ∀ (x7 : t7), 
      CS (cfgOf cA P w K mg base N qual scope f cdv A outer s H E) (noFm N.length) [] body (inFm N [enc x1, enc x2, enc x3, enc x4, enc x5, enc x6, enc x7]) [] (fun z => .fin (enc z) []) (g x1 x2 x3 x4 x5 x6 x7)) : FnOk P w K mg base (L2.CX P w) (k + 1) f fd ps (SpF K cA (Fv7 g)) := by
  refine fn_ok F S (fun ds m r => ?_) fun cdv A outer s H E hr ds m r => ?_
  · obtain ⟨x1, x2, x3, x4, x5, x6, x7, rfl, rfl⟩ := r
    rw [hn]; rfl
  · obtain ⟨x1, x2, x3, x4, x5, x6, x7, rfl, rfl⟩ := r
    exact cs_encM (h cdv A outer s H E hr x1 x2 x3 x4 x5 x6 x7)
theorem fn_ok8 {t1 t2 t3 t4 t5 t6 t7 t8 β : Type} [Enc t1] [Enc t2] [Enc t3] [Enc t4] [Enc t5] [Enc t6] [Enc t7] [Enc t8] [Enc β] {g : t1 → t2 → t3 → t4 → t5 → t6 → t7 → t8 → M β} (F : FunD K x qual params body scope dvs kws f fd) (S : FnScope N ps scope) (hn : ps.length = 8)
    (h : ∀ (cdv : Value) (A : Around) (outer : List Env) (s : Shared) (H : Hp) (E : XK), Room k (A.deeper (envOfC qual scope s.heap.objs.size f cdv)) → ∀ (x1 : t1), ∀ (x2 : t2), ∀ (x3 : t3), ∀ (x4 : t4), ∀ (x5 : t5), ∀ (x6 : t6), ∀ (x7 : t7), ∀ (x8 : t8), 
      CS (cfgOf cA P w K mg base N qual scope f cdv A outer s H E) (noFm N.length) [] body (inFm N [enc x1, enc x2, enc x3, enc x4, enc x5, enc x6, enc x7, enc x8]) [] (fun z => .fin (enc z) []) (g x1 x2 x3 x4 x5 x6 x7 x8)) : FnOk P w K mg base (L2.CX P w) (k + 1) f fd ps (SpF K cA (Fv8 g)) := by
  refine fn_ok F S (fun ds m r => ?_) fun cdv A outer s H E hr ds m r => ?_
  · obtain ⟨x1, x2, x3, x4, x5, x6, x7, x8, rfl, rfl⟩ := r
    rw [hn]; rfl
  · obtain ⟨x1, x2, x3, x4, x5, x6, x7, x8, rfl, rfl⟩ := r
    exact cs_encM (h cdv A outer s H E hr x1 x2 x3 x4 x5 x6 x7 x8)
end
section
variable {c : Cfg} {Γ : Fm} {L : Led} {k : Nat} {f : Addr} {fd : FuncData} {ps : List Str} {R : List D → M D → Prop} {dvs : List V} {ds : List Value} {dds : List D} {x : Str} {p pos : Pos}
theorem ce_call1 {t1 β : Type} [Enc t1] [Enc β] {g : t1 → M β} {e1 : Expr} {m1 : M t1} (F : FnOk c.X.prog c.X.w c.X.K c.X.mg c.X.base (L2.CX c.X.prog c.X.w) k f fd ps (SpF c.K c.cA R)) (hr : Room k c.X.A) (hg : Gl c.X x) (hm : c.X.mg x = some (.ref f)) (hk : PySem.W.keepIn c.X.K (.ref f) = true)
    (hb : Binds c.X.K fd ps ds) (hd : Vals dvs ds) (hdd : ∀ G, RpAll c.K c.cA G dvs dds) (tk : Takes c.X c.W) (hR : ∀ x1, R ([enc x1] ++ dds) (encM (g x1))) (h1 : CE c e1 Γ L m1)
    (hdb : (x == ("__debug__" : Str)) = false := by decide) (s1 : starEach [e1] c.X.env = (false, eval e1 c.X.env) :: starEach [] c.X.env := by rfl) (hpl : (backTo pos (starEach [] c.X.env)).any (·.1) = false := by rfl) :
    CE c (.Call (.Name x p) [e1] [] pos) Γ L (m1.bind fun x1 => g x1) := fun B G0 G H σ Q s p => by
  refine wpE_of (pe_callSD F hr hg hm hk hb hd (fun σ => passAt tk σ) (pa_cons pe_wp pa_nil s1) hdb s1 hpl) ?_
  refine h1.then (P := Pst c G H σ Q) s p (fun z => z) (fun e z => z) fun x1 v1 G1 H1 p e1 s1 r1 => ?_
  exact ⟨G1, [enc x1] ++ dds, encM (g x1), hR x1, s1.gh, RpAll.append (.cons r1 .nil) (hdd _), pstD_of (Pst.ext e1 p)⟩
theorem ce_call2 {t1 t2 β : Type} [Enc t1] [Enc t2] [Enc β] {g : t1 → t2 → M β} {e1 e2 : Expr} {m1 : M t1} {m2 : M t2} (F : FnOk c.X.prog c.X.w c.X.K c.X.mg c.X.base (L2.CX c.X.prog c.X.w) k f fd ps (SpF c.K c.cA R)) (hr : Room k c.X.A) (hg : Gl c.X x) (hm : c.X.mg x = some (.ref f)) (hk : PySem.W.keepIn c.X.K (.ref f) = true)
    (hb : Binds c.X.K fd ps ds) (hd : Vals dvs ds) (hdd : ∀ G, RpAll c.K c.cA G dvs dds) (tk : Takes c.X c.W) (hR : ∀ x1 x2, R ([enc x1, enc x2] ++ dds) (encM (g x1 x2))) (h1 : CE c e1 Γ L m1) (h2 : CE c e2 Γ L m2)
    (hdb : (x == ("__debug__" : Str)) = false := by decide) (s1 : starEach [e1, e2] c.X.env = (false, eval e1 c.X.env) :: starEach [e2] c.X.env := by rfl) (s2 : starEach [e2] c.X.env = (false, eval e2 c.X.env) :: starEach [] c.X.env := by rfl) (hpl : (backTo pos (starEach [e2] c.X.env)).any (·.1) = false := by rfl) :
    CE c (.Call (.Name x p) [e1, e2] [] pos) Γ L (m1.bind fun x1 => m2.bind fun x2 => g x1 x2) := fun B G0 G H σ Q s p => by
  refine wpE_of (pe_callSD F hr hg hm hk hb hd (fun σ => passAt tk σ) (pa_cons pe_wp (pa_cons pe_wp pa_nil s2) s1) hdb s1 hpl) ?_
  refine h1.then (P := Pst c G H σ Q) s p (fun z => z) (fun e z => z) fun x1 v1 G1 H1 p e1 s1 r1 => ?_
  refine h2.then (P := Pst c G1 H1 σ Q) s1 (Pst.ext e1 p) (fun z => z) (fun e z => z) fun x2 v2 G2 H2 p e2 s2 r2 => ?_
  exact ⟨G2, [enc x1, enc x2] ++ dds, encM (g x1 x2), hR x1 x2, s2.gh, RpAll.append (.cons (r1.mono e2.g) (.cons r2 .nil)) (hdd _), pstD_of (Pst.ext e2 p)⟩
theorem ce_call3 {t1 t2 t3 β : Type} [Enc t1] [Enc t2] [Enc t3] [Enc β] {g : t1 → t2 → t3 → M β} {e1 e2 e3 : Expr} {m1 : M t1} {m2 : M t2} {m3 : M t3} (F : FnOk c.X.prog c.X.w c.X.K c.X.mg c.X.base (L2.CX c.X.prog c.X.w) k f fd ps (SpF c.K c.cA R)) (hr : Room k c.X.A) (hg : Gl c.X x) (hm : c.X.mg x = some (.ref f)) (hk : PySem.W.keepIn c.X.K (.ref f) = true)
    (hb : Binds c.X.K fd ps ds) (hd : Vals dvs ds) (hdd : ∀ G, RpAll c.K c.cA G dvs dds) (tk : Takes c.X c.W) (hR : ∀ x1 x2 x3, R ([enc x1, enc x2, enc x3] ++ dds) (encM (g x1 x2 x3))) (h1 : CE c e1 Γ L m1) (h2 : CE c e2 Γ L m2) (h3 : CE c e3 Γ L m3)
    (hdb : (x == ("__debug__" : Str)) = false := by decide) (s1 : starEach [e1, e2, e3] c.X.env = (false, eval e1 c.X.env) :: starEach [e2, e3] c.X.env := by rfl) (s2 : starEach [e2, e3] c.X.env = (false, eval e2 c.X.env) :: starEach [e3] c.X.env := by rfl) (s3 : starEach [e3] c.X.env = (false, eval e3 c.X.env) :: starEach [] c.X.env := by rfl) (hpl : (backTo pos (starEach [e2, e3] c.X.env)).any (·.1) = false := by rfl) :
    CE c (.Call (.Name x p) [e1, e2, e3] [] pos) Γ L (m1.bind fun x1 => m2.bind fun x2 => m3.bind fun x3 => g x1 x2 x3) := fun B G0 G H σ Q s p => by
  refine wpE_of (pe_callSD F hr hg hm hk hb hd (fun σ => passAt tk σ) (pa_cons pe_wp (pa_cons pe_wp (pa_cons pe_wp pa_nil s3) s2) s1) hdb s1 hpl) ?_
  refine h1.then (P := Pst c G H σ Q) s p (fun z => z) (fun e z => z) fun x1 v1 G1 H1 p e1 s1 r1 => ?_
  refine h2.then (P := Pst c G1 H1 σ Q) s1 (Pst.ext e1 p) (fun z => z) (fun e z => z) fun x2 v2 G2 H2 p e2 s2 r2 => ?_
  refine h3.then (P := Pst c G2 H2 σ Q) s2 (Pst.ext e2 p) (fun z => z) (fun e z => z) fun x3 v3 G3 H3 p e3 s3 r3 => ?_
  exact ⟨G3, [enc x1, enc x2, enc x3] ++ dds, encM (g x1 x2 x3), hR x1 x2 x3, s3.gh, RpAll.append (.cons ((r1.mono e2.g).mono e3.g) (.cons (r2.mono e3.g) (.cons r3 .nil))) (hdd _), pstD_of (Pst.ext e3 p)⟩
theorem ce_call4 {t1 t2 t3 t4 β : Type} [Enc t1] [Enc t2] [Enc t3] [Enc t4] [Enc β] {g : t1 → t2 → t3 → t4 → M β} {e1 e2 e3 e4 : Expr} {m1 : M t1} {m2 : M t2} {m3 : M t3} {m4 : M t4} (F : FnOk c.X.prog c.X.w c.X.K c.X.mg c.X.base (L2.CX c.X.prog c.X.w) k f fd ps (SpF c.K c.cA R)) (hr : Room k c.X.A) (hg : Gl c.X x) (hm : c.X.mg x = some (.ref f)) (hk : PySem.W.keepIn c.X.K (.ref f) = true)
    (hb : Binds c.X.K fd ps ds) (hd : Vals dvs ds) (hdd : ∀ G, RpAll c.K c.cA G dvs dds) (tk : Takes c.X c.W) (hR : ∀ x1 x2 x3 x4, R ([enc x1, enc x2, enc x3, enc x4] ++ dds) (encM (g x1 x2 x3 x4))) (h1 : CE c e1 Γ L m1) (h2 : CE c e2 Γ L m2) (h3 : CE c e3 Γ L m3) (h4 : CE c e4 Γ L m4)
    (hdb : (x == ("__debug__" : Str)) = false := by decide) (s1 : starEach [e1, e2, e3, e4] c.X.env = (false, eval e1 c.X.env) :: starEach [e2, e3, e4] c.X.env := by rfl) (s2 : starEach [e2, e3, e4] c.X.env = (false, eval e2 c.X.env) :: starEach [e3, e4] c.X.env := by rfl) (s3 : starEach [e3, e4] c.X.env = (false, eval e3 c.X.env) :: starEach [e4] c.X.env := by rfl) (s4 : starEach [e4] c.X.env = (false, eval e4 c.X.env) :: starEach [] c.X.env := by rfl) (hpl : (backTo pos (starEach [e2, e3, e4] c.X.env)).any (·.1) = false := by rfl) :
    CE c (.Call (.Name x p) [e1, e2, e3, e4] [] pos) Γ L (m1.bind fun x1 => m2.bind fun x2 => m3.bind fun x3 => m4.bind fun x4 => g x1 x2 x3 x4) := fun B G0 G H σ Q s p => by
  refine wpE_of (pe_callSD F hr hg hm hk hb hd (fun σ => passAt tk σ) (pa_cons pe_wp (pa_cons pe_wp (pa_cons pe_wp (pa_cons pe_wp pa_nil s4) s3) s2) s1) hdb s1 hpl) ?_
  refine h1.then (P := Pst c G H σ Q) s p (fun z => z) (fun e z => z) fun x1 v1 G1 H1 p e1 s1 r1 => ?_
  refine h2.then (P := Pst c G1 H1 σ Q) s1 (Pst.ext e1 p) (fun z => z) (fun e z => z) fun x2 v2 G2 H2 p e2 s2 r2 => ?_
  refine h3.then (P := Pst c G2 H2 σ Q) s2 (Pst.ext e2 p) (fun z => z) (fun e z => z) fun x3 v3 G3 H3 p e3 s3 r3 => ?_
  refine h4.then (P := Pst c G3 H3 σ Q) s3 (Pst.ext e3 p) (fun z => z) (fun e z => z) fun x4 v4 G4 H4 p e4 s4 r4 => ?_
  exact ⟨G4, [enc x1, enc x2, enc x3, enc x4] ++ dds, encM (g x1 x2 x3 x4), hR x1 x2 x3 x4, s4.gh, RpAll.append (.cons (((r1.mono e2.g).mono e3.g).mono e4.g) (.cons ((r2.mono e3.g).mono e4.g) (.cons (r3.mono e4.g) (.cons r4 .nil)))) (hdd _), pstD_of (Pst.ext e4 p)⟩
theorem ce_call5 {t1 t2 t3 t4 t5 β : Type} [Enc t1] [Enc t2] [Enc t3] [Enc t4] [Enc t5] [Enc β] {g : t1 → t2 → t3 → t4 → t5 → M β} {e1 e2 e3 e4 e5 : Expr} {m1 : M t1} {m2 : M t2} {m3 : M t3} {m4 : M t4} {m5 : M t5} (F : FnOk c.X.prog c.X.w c.X.K c.X.mg c.X.base (L2.CX c.X.prog c.X.w) k f fd ps (SpF c.K c.cA R)) (hr : Room k c.X.A) (hg : Gl c.X x) (hm : c.X.mg x = some (.ref f)) (hk : PySem.W.keepIn c.X.K (.ref f) = true)
    (hb : Binds c.X.K fd ps ds) (hd : Vals dvs ds) (hdd : ∀ G, RpAll c.K c.cA G dvs dds) (tk : Takes c.X c.W) (hR : ∀ x1 x2 x3 x4 x5, R ([enc x1, enc x2, enc x3, enc x4, enc x5] ++ dds) (encM (g x1 x2 x3 x4 x5))) (h1 : CE c e1 Γ L m1) (h2 : CE c e2 Γ L m2) (h3 : CE c e3 Γ L m3) (h4 : CE c e4 Γ L m4) (h5 : CE c e5 Γ L m5)
    (hdb : (x == ("__debug__" : Str)) = false := by decide) (s1 : starEach [e1, e2, e3, e4, e5] c.X.env = (false, eval e1 c.X.env) :: starEach [e2, e3, e4, e5] c.X.env := by rfl) (s2 : starEach [e2, e3, e4, e5] c.X.env = (false, eval e2 c.X.env) :: starEach [e3, e4, e5] c.X.env := by rfl) (s3 : starEach [e3, e4, e5] c.X.env = (false, eval e3 c.X.env) :: starEach [e4, e5] c.X.env := by rfl) (s4 : starEach [e4, e5] c.X.env = (false, eval e4 c.X.env) :: starEach [e5] c.X.env := by rfl) (s5 : starEach [e5] c.X.env = (false, eval e5 c.X.env) :: starEach [] c.X.env := by rfl) (hpl : (backTo pos (starEach [e2, e3, e4, e5] c.X.env)).any (·.1) = false := by rfl) :
    CE c (.Call (.Name x p) [e1, e2, e3, e4, e5] [] pos) Γ L (m1.bind fun x1 => m2.bind fun x2 => m3.bind fun x3 => m4.bind fun x4 => m5.bind fun x5 => g x1 x2 x3 x4 x5) := fun B G0 G H σ Q s p => by
  refine wpE_of (pe_callSD F hr hg hm hk hb hd (fun σ => passAt tk σ) (pa_cons pe_wp (pa_cons pe_wp (pa_cons pe_wp (pa_cons pe_wp (pa_cons pe_wp pa_nil s5) s4) s3) s2) s1) hdb s1 hpl) ?_
  refine h1.then (P := Pst c G H σ Q) s p (fun z => z) (fun e z => z) fun x1 v1 G1 H1 p e1 s1 r1 => ?_
  refine h2.then (P := Pst c G1 H1 σ Q) s1 (Pst.ext e1 p) (fun z => z) (fun e z => z) fun x2 v2 G2 H2 p e2 s2 r2 => ?_
  refine h3.then (P := Pst c G2 H2 σ Q) s2 (Pst.ext e2 p) (fun z => z) (fun e z => z) fun x3 v3 G3 H3 p e3 s3 r3 => ?_
  refine h4.then (P := Pst c G3 H3 σ Q) s3 (Pst.ext e3 p) (fun z => z) (fun e z => z) fun x4 v4 G4 H4 p e4 s4 r4 => ?_
  refine h5.then (P := Pst c G4 H4 σ Q) s4 (Pst.ext e4 p) (fun z => z) (fun e z => z) fun x5 v5 G5 H5 p e5 s5 r5 => ?_
  exact ⟨G5, [enc x1, enc x2, enc x3, enc x4, enc x5] ++ dds, encM (g x1 x2 x3 x4 x5), hR x1 x2 x3 x4 x5, s5.gh, RpAll.append (.cons ((((r1.mono e2.g).mono e3.g).mono e4.g).mono e5.g) (.cons (((r2.mono e3.g).mono e4.g).mono e5.g) (.cons ((r3.mono e4.g).mono e5.g) (.cons (r4.mono e5.g) (.cons r5 .nil))))) (hdd _), pstD_of (Pst.ext e5 p)⟩
theorem ce_call6 {t1 t2 t3 t4 t5 t6 β : Type} [Enc t1] [Enc t2] [Enc t3] [Enc t4] [Enc t5] [Enc t6] [Enc β] {g : t1 → t2 → t3 → t4 → t5 → t6 → M β} {e1 e2 e3 e4 e5 e6 : Expr} {m1 : M t1} {m2 : M t2} {m3 : M t3} {m4 : M t4} {m5 : M t5} {m6 : M t6} (F : FnOk c.X.prog c.X.w c.X.K c.X.mg c.X.base (L2.CX c.X.prog c.X.w) k f fd ps (SpF c.K c.cA R)) (hr : Room k c.X.A) (hg : Gl c.X x) (hm : c.X.mg x = some (.ref f)) (hk : PySem.W.keepIn c.X.K (.ref f) = true)
    (hb : Binds c.X.K fd ps ds) (hd : Vals dvs ds) (hdd : ∀ G, RpAll c.K c.cA G dvs dds) (tk : Takes c.X c.W) (hR : ∀ x1 x2 x3 x4 x5 x6, R ([enc x1, enc x2, enc x3, enc x4, enc x5, enc x6] ++ dds) (encM (g x1 x2 x3 x4 x5 x6))) (h1 : CE c e1 Γ L m1) (h2 : CE c e2 Γ L m2) (h3 : CE c e3 Γ L m3) (h4 : CE c e4 Γ L m4) (h5 : CE c e5 Γ L m5) (h6 : CE c e6 Γ L m6)
    (hdb : (x == ("__debug__" : Str)) = false := by decide) (s1 : starEach [e1, e2, e3, e4, e5, e6] c.X.env = (false, eval e1 c.X.env) :: starEach [e2, e3, e4, e5, e6] c.X.env := by rfl) (s2 : starEach [e2, e3, e4, e5, e6] c.X.env = (false, eval e2 c.X.env) :: starEach [e3, e4, e5, e6] c.X.env := by rfl) (s3 : starEach [e3, e4, e5, e6] c.X.env = (false, eval e3 c.X.env) :: starEach [e4, e5, e6] c.X.env := by rfl) (s4 : starEach [e4, e5, e6] c.X.env = (false, eval e4 c.X.env) :: starEach [e5, e6] c.X.env := by rfl) (s5 : starEach [e5, e6] c.X.env = (false, eval e5 c.X.env) :: starEach [e6] c.X.env := by rfl) (s6 : starEach [e6] c.X.env = (false, eval e6 c.X.env) :: starEach [] c.X.env := by rfl) (hpl : (backTo pos (starEach [e2, e3, e4, e5, e6] c.X.env)).any (·.1) = false := by rfl) :
    CE c (.Call (.Name x p) [e1, e2, e3, e4, e5, e6] [] pos) Γ L (m1.bind fun x1 => m2.bind fun x2 => m3.bind fun x3 => m4.bind fun x4 => m5.bind fun x5 => m6.bind fun x6 => g x1 x2 x3 x4 x5 x6) := fun B G0 G H σ Q s p => by
  refine wpE_of (pe_callSD F hr hg hm hk hb hd (fun σ => passAt tk σ) (pa_cons pe_wp (pa_cons pe_wp (pa_cons pe_wp (pa_cons pe_wp (pa_cons pe_wp (pa_cons pe_wp pa_nil s6) s5) s4) s3) s2) s1) hdb s1 hpl) ?_
  refine h1.then (P := Pst c G H σ Q) s p (fun z => z) (fun e z => z) fun x1 v1 G1 H1 p e1 s1 r1 => ?_
  refine h2.then (P := Pst c G1 H1 σ Q) s1 (Pst.ext e1 p) (fun z => z) (fun e z => z) fun x2 v2 G2 H2 p e2 s2 r2 => ?_
  refine h3.then (P := Pst c G2 H2 σ Q) s2 (Pst.ext e2 p) (fun z => z) (fun e z => z) fun x3 v3 G3 H3 p e3 s3 r3 => ?_
  refine h4.then (P := Pst c G3 H3 σ Q) s3 (Pst.ext e3 p) (fun z => z) (fun e z => z) fun x4 v4 G4 H4 p e4 s4 r4 => ?_
  refine h5.then (P := Pst c G4 H4 σ Q) s4 (Pst.ext e4 p) (fun z => z) (fun e z => z) fun x5 v5 G5 H5 p e5 s5 r5 => ?_
  refine h6.then (P := Pst c G5 H5 σ Q) s5 (Pst.ext e5 p) (fun z => z) (fun e z => z) fun x6 v6 G6 H6 p e6 s6 r6 => ?_
  exact ⟨G6, [enc x1, enc x2, enc x3, enc x4, enc x5, enc x6] ++ dds, encM (g x1 x2 x3 x4 x5 x6), hR x1 x2 x3 x4 x5 x6, s6.gh, RpAll.append (.cons (((((r1.mono e2.g).mono e3.g).mono e4.g).mono e5.g).mono e6.g) (.cons ((((r2.mono e3.g).mono e4.g).mono e5.g).mono e6.g) (.cons (((r3.mono e4.g).mono e5.g).mono e6.g) (.cons ((r4.mono e5.g).mono e6.g) (.cons (r5.mono e6.g) (.cons r6 .nil)))))) (hdd _), pstD_of (Pst.ext e6 p)⟩
theorem ce_call7 {t1 t2 t3 t4 t5 t6 t7 β : Type} [Enc t1] [Enc t2] [Enc t3] [Enc t4] [Enc t5] [Enc t6] [Enc t7] [Enc β] {g : t1 → t2 → t3 → t4 → t5 → t6 → t7 → M β} {e1 e2 e3 e4 e5 e6 e7 : Expr} {m1 : M t1} {m2 : M t2} {m3 : M t3} {m4 : M t4} {m5 : M t5} {m6 : M t6} {m7 : M t7} (F : FnOk c.X.prog c.X.w c.X.K c.X.mg c.X.base (L2.CX c.X.prog c.X.w) k f fd ps (SpF c.K c.cA R)) (hr : Room k c.X.A) (hg : Gl c.X x) (hm : c.X.mg x = some (.ref f)) (hk : PySem.W.keepIn c.X.K (.ref f) = true)
    (hb : Binds c.X.K fd ps ds) (hd : Vals dvs ds) (hdd : ∀ G, RpAll c.K c.cA G dvs dds) (tk : Takes c.X c.W) (hR : ∀ x1 x2 x3 x4 x5 x6 x7, R ([enc x1, enc x2, enc x3, enc x4, enc x5, enc x6, enc x7] ++ dds) (encM (g x1 x2 x3 x4 x5 x6 x7))) (h1 : CE c e1 Γ L m1) (h2 : CE c e2 Γ L m2) (h3 : CE c e3 Γ L m3) (h4 : CE c e4 Γ L m4) (h5 : CE c e5 Γ L m5) (h6 : CE c e6 Γ L m6) (h7 : CE c e7 Γ L m7)
    (hdb : (x == ("__debug__" : Str)) = false := by decide) (s1 : starEach [e1, e2, e3, e4, e5, e6, e7] c.X.env = (false, eval e1 c.X.env) :: starEach [e2, e3, e4, e5, e6, e7] c.X.env := by rfl) (s2 : starEach [e2, e3, e4, e5, e6, e7] c.X.env = (false, eval e2 c.X.env) :: starEach [e3, e4, e5, e6, e7] c.X.env := by rfl) (s3 : starEach [e3, e4, e5, e6, e7] c.X.env = (false, eval e3 c.X.env) :: starEach [e4, e5, e6, e7] c.X.env := by rfl) (s4 : starEach [e4, e5, e6, e7] c.X.env = (false, eval e4 c.X.env) :: starEach [e5, e6, e7] c.X.env := by rfl) (s5 : starEach [e5, e6, e7] c.X.env = (false, eval e5 c.X.env) :: starEach [e6, e7] c.X.env := by rfl) (s6 : starEach [e6, e7] c.X.env = (false, eval e6 c.X.env) :: starEach [e7] c.X.env := by rfl) (s7 : starEach [e7] c.X.env = (false, eval e7 c.X.env) :: starEach [] c.X.env := by rfl) (hpl : (backTo pos (starEach [e2, e3, e4, e5, e6, e7] c.X.env)).any (·.1) = false := by rfl) :
    CE c (.Call (.Name x p) [e1, e2, e3, e4, e5, e6, e7] [] pos) Γ L (m1.bind fun x1 => m2.bind fun x2 => m3.bind fun x3 => m4.bind fun x4 => m5.bind fun x5 => m6.bind fun x6 => m7.bind fun x7 => g x1 x2 x3 x4 x5 x6 x7) := fun B G0 G H σ Q s p => by
  refine wpE_of (pe_callSD F hr hg hm hk hb hd (fun σ => passAt tk σ) (pa_cons pe_wp (pa_cons pe_wp (pa_cons pe_wp (pa_cons pe_wp (pa_cons pe_wp (pa_cons pe_wp (pa_cons pe_wp pa_nil s7) s6) s5) s4) s3) s2) s1) hdb s1 hpl) ?_
  refine h1.then (P := Pst c G H σ Q) s p (fun z => z) (fun e z => z) fun x1 v1 G1 H1 p e1 s1 r1 => ?_
  refine h2.then (P := Pst c G1 H1 σ Q) s1 (Pst.ext e1 p) (fun z => z) (fun e z => z) fun x2 v2 G2 H2 p e2 s2 r2 => ?_
  refine h3.then (P := Pst c G2 H2 σ Q) s2 (Pst.ext e2 p) (fun z => z) (fun e z => z) fun x3 v3 G3 H3 p e3 s3 r3 => ?_
  refine h4.then (P := Pst c G3 H3 σ Q) s3 (Pst.ext e3 p) (fun z => z) (fun e z => z) fun x4 v4 G4 H4 p e4 s4 r4 => ?_
  refine h5.then (P := Pst c G4 H4 σ Q) s4 (Pst.ext e4 p) (fun z => z) (fun e z => z) fun x5 v5 G5 H5 p e5 s5 r5 => ?_
  refine h6.then (P := Pst c G5 H5 σ Q) s5 (Pst.ext e5 p) (fun z => z) (fun e z => z) fun x6 v6 G6 H6 p e6 s6 r6 => ?_
  refine h7.then (P := Pst c G6 H6 σ Q) s6 (Pst.ext e6 p) (fun z => z) (fun e z => z) fun x7 v7 G7 H7 p e7 s7 r7 => ?_
  exact ⟨G7, [enc x1, enc x2, enc x3, enc x4, enc x5, enc x6, enc x7] ++ dds, encM (g x1 x2 x3 x4 x5 x6 x7), hR x1 x2 x3 x4 x5 x6 x7, s7.gh, RpAll.append (.cons ((((((r1.mono e2.g).mono e3.g).mono e4.g).mono e5.g).mono e6.g).mono e7.g) (.cons (((((r2.mono e3.g).mono e4.g).mono e5.g).mono e6.g).mono e7.g) (.cons ((((r3.mono e4.g).mono e5.g).mono e6.g).mono e7.g) (.cons (((r4.mono e5.g).mono e6.g).mono e7.g) (.cons ((r5.mono e6.g).mono e7.g) (.cons (r6.mono e7.g) (.cons r7 .nil))))))) (hdd _), pstD_of (Pst.ext e7 p)⟩
theorem ce_call8 {t1 t2 t3 t4 t5 t6 t7 t8 β : Type} [Enc t1] [Enc t2] [Enc t3] [Enc t4] [Enc t5] [Enc t6] [Enc t7] [Enc t8] [Enc β] {g : t1 → t2 → t3 → t4 → t5 → t6 → t7 → t8 → M β} {e1 e2 e3 e4 e5 e6 e7 e8 : Expr} {m1 : M t1} {m2 : M t2} {m3 : M t3} {m4 : M t4} {m5 : M t5} {m6 : M t6} {m7 : M t7} {m8 : M t8} (F : FnOk c.X.prog c.X.w c.X.K c.X.mg c.X.base (L2.CX c.X.prog c.X.w) k f fd ps (SpF c.K c.cA R)) (hr : Room k c.X.A) (hg : Gl c.X x) (hm : c.X.mg x = some (.ref f)) (hk : PySem.W.keepIn c.X.K (.ref f) = true)
    (hb : Binds c.X.K fd ps ds) (hd : Vals dvs ds) (hdd : ∀ G, RpAll c.K c.cA G dvs dds) (tk : Takes c.X c.W) (hR : ∀ x1 x2 x3 x4 x5 x6 x7 x8, R ([enc x1, enc x2, enc x3, enc x4, enc x5, enc x6, enc x7, enc x8] ++ dds) (encM (g x1 x2 x3 x4 x5 x6 x7 x8))) (h1 : CE c e1 Γ L m1) (h2 : CE c e2 Γ L m2) (h3 : CE c e3 Γ L m3) (h4 : CE c e4 Γ L m4) (h5 : CE c e5 Γ L m5) (h6 : CE c e6 Γ L m6) (h7 : CE c e7 Γ L m7) (h8 : CE c e8 Γ L m8)
    (hdb : (x == ("__debug__" : Str)) = false := by decide) (s1 : starEach [e1, e2, e3, e4, e5, e6, e7, e8] c.X.env = (false, eval e1 c.X.env) :: starEach [e2, e3, e4, e5, e6, e7, e8] c.X.env := by rfl) (s2 : starEach [e2, e3, e4, e5, e6, e7, e8] c.X.env = (false, eval e2 c.X.env) :: starEach [e3, e4, e5, e6, e7, e8] c.X.env := by rfl) (s3 : starEach [e3, e4, e5, e6, e7, e8] c.X.env = (false, eval e3 c.X.env) :: starEach [e4, e5, e6, e7, e8] c.X.env := by rfl) (s4 : starEach [e4, e5, e6, e7, e8] c.X.env = (false, eval e4 c.X.env) :: starEach [e5, e6, e7, e8] c.X.env := by rfl) (s5 : starEach [e5, e6, e7, e8] c.X.env = (false, eval e5 c.X.env) :: starEach [e6, e7, e8] c.X.env := by rfl) (s6 : starEach [e6, e7, e8] c.X.env = (false, eval e6 c.X.env) :: starEach [e7, e8] c.X.env := by rfl) (s7 : starEach [e7, e8] c.X.env = (false, eval e7 c.X.env) :: starEach [e8] c.X.env := by rfl) (s8 : starEach [e8] c.X.env = (false, eval e8 c.X.env) :: starEach [] c.X.env := by rfl) (hpl : (backTo pos (starEach [e2, e3, e4, e5, e6, e7, e8] c.X.env)).any (·.1) = false := by rfl) :
    CE c (.Call (.Name x p) [e1, e2, e3, e4, e5, e6, e7, e8] [] pos) Γ L (m1.bind fun x1 => m2.bind fun x2 => m3.bind fun x3 => m4.bind fun x4 => m5.bind fun x5 => m6.bind fun x6 => m7.bind fun x7 => m8.bind fun x8 => g x1 x2 x3 x4 x5 x6 x7 x8) := fun B G0 G H σ Q s p => by
  refine wpE_of (pe_callSD F hr hg hm hk hb hd (fun σ => passAt tk σ) (pa_cons pe_wp (pa_cons pe_wp (pa_cons pe_wp (pa_cons pe_wp (pa_cons pe_wp (pa_cons pe_wp (pa_cons pe_wp (pa_cons pe_wp pa_nil s8) s7) s6) s5) s4) s3) s2) s1) hdb s1 hpl) ?_
  refine h1.then (P := Pst c G H σ Q) s p (fun z => z) (fun e z => z) fun x1 v1 G1 H1 p e1 s1 r1 => ?_
  refine h2.then (P := Pst c G1 H1 σ Q) s1 (Pst.ext e1 p) (fun z => z) (fun e z => z) fun x2 v2 G2 H2 p e2 s2 r2 => ?_
  refine h3.then (P := Pst c G2 H2 σ Q) s2 (Pst.ext e2 p) (fun z => z) (fun e z => z) fun x3 v3 G3 H3 p e3 s3 r3 => ?_
  refine h4.then (P := Pst c G3 H3 σ Q) s3 (Pst.ext e3 p) (fun z => z) (fun e z => z) fun x4 v4 G4 H4 p e4 s4 r4 => ?_
  refine h5.then (P := Pst c G4 H4 σ Q) s4 (Pst.ext e4 p) (fun z => z) (fun e z => z) fun x5 v5 G5 H5 p e5 s5 r5 => ?_
  refine h6.then (P := Pst c G5 H5 σ Q) s5 (Pst.ext e5 p) (fun z => z) (fun e z => z) fun x6 v6 G6 H6 p e6 s6 r6 => ?_
  refine h7.then (P := Pst c G6 H6 σ Q) s6 (Pst.ext e6 p) (fun z => z) (fun e z => z) fun x7 v7 G7 H7 p e7 s7 r7 => ?_
  refine h8.then (P := Pst c G7 H7 σ Q) s7 (Pst.ext e7 p) (fun z => z) (fun e z => z) fun x8 v8 G8 H8 p e8 s8 r8 => ?_
  exact ⟨G8, [enc x1, enc x2, enc x3, enc x4, enc x5, enc x6, enc x7, enc x8] ++ dds, encM (g x1 x2 x3 x4 x5 x6 x7 x8), hR x1 x2 x3 x4 x5 x6 x7 x8, s8.gh, RpAll.append (.cons (((((((r1.mono e2.g).mono e3.g).mono e4.g).mono e5.g).mono e6.g).mono e7.g).mono e8.g) (.cons ((((((r2.mono e3.g).mono e4.g).mono e5.g).mono e6.g).mono e7.g).mono e8.g) (.cons (((((r3.mono e4.g).mono e5.g).mono e6.g).mono e7.g).mono e8.g) (.cons ((((r4.mono e5.g).mono e6.g).mono e7.g).mono e8.g) (.cons (((r5.mono e6.g).mono e7.g).mono e8.g) (.cons ((r6.mono e7.g).mono e8.g) (.cons (r7.mono e8.g) (.cons r8 .nil)))))))) (hdd _), pstD_of (Pst.ext e8 p)⟩
end
/-- the def named x, at f: what it is worth, with what a call needs -/
structure Callable (P : Program) (w : World) (K : PySem.W.Frag) (mg : Str → Option Value) (base : Heap) (cA : Str → Addr) (k : Nat) (x : Str) (f : Addr) (ps : List Str) (R : List D → M D → Prop) : Prop where
  gm : mg x = some (.ref f)
  kp : PySem.W.keepIn K (.ref f) = true
  ok : ∃ fd, FnOk P w K mg base (L2.CX P w) k f fd ps (SpF K cA R) ∧ Binds K fd ps []
theorem Callable.mono {P : Program} {w : World} {K : PySem.W.Frag} {mg : Str → Option Value} {base : Heap} {cA : Str → Addr} {k j : Nat} {x : Str} {f : Addr} {ps : List Str} {R : List D → M D → Prop} (h : Callable P w K mg base cA k x f ps R) (hk : k ≤ j) : Callable P w K mg base cA j x f ps R :=
  ⟨h.gm, h.kp, let ⟨fd, a, b⟩ := h.ok; ⟨fd, a.mono hk, b⟩⟩
section
variable {c : Cfg} {Γ : Fm} {L : Led} {k : Nat} {f : Addr} {ps : List Str} {R : List D → M D → Prop} {x : Str} {p pos : Pos}
theorem ce_c1 {t1 β : Type} [Enc t1] [Enc β] {g : t1 → M β} {e1 : Expr} {m1 : M t1} (C : Callable c.X.prog c.X.w c.X.K c.X.mg c.X.base c.cA k x f ps (Fv1 g)) (hr : Room k c.X.A) (hg : Gl c.X x) (tk : Takes c.X c.W) (h1 : CE c e1 Γ L m1)
    (hdb : (x == ("__debug__" : Str)) = false := by decide) (s1 : starEach [e1] c.X.env = (false, eval e1 c.X.env) :: starEach [] c.X.env := by rfl) (hpl : (backTo pos (starEach [] c.X.env)).any (·.1) = false := by rfl) :
    CE c (.Call (.Name x p) [e1] [] pos) Γ L (m1.bind fun x1 => g x1) := by
  obtain ⟨fd, F, b⟩ := C.ok
  exact ce_call1 F hr hg C.gm C.kp b .nil (fun _ => .nil) tk (fun {x1} => ⟨x1, rfl, rfl⟩) h1 hdb s1 hpl
theorem ce_c2 {t1 t2 β : Type} [Enc t1] [Enc t2] [Enc β] {g : t1 → t2 → M β} {e1 e2 : Expr} {m1 : M t1} {m2 : M t2} (C : Callable c.X.prog c.X.w c.X.K c.X.mg c.X.base c.cA k x f ps (Fv2 g)) (hr : Room k c.X.A) (hg : Gl c.X x) (tk : Takes c.X c.W) (h1 : CE c e1 Γ L m1) (h2 : CE c e2 Γ L m2)
    (hdb : (x == ("__debug__" : Str)) = false := by decide) (s1 : starEach [e1, e2] c.X.env = (false, eval e1 c.X.env) :: starEach [e2] c.X.env := by rfl) (s2 : starEach [e2] c.X.env = (false, eval e2 c.X.env) :: starEach [] c.X.env := by rfl) (hpl : (backTo pos (starEach [e2] c.X.env)).any (·.1) = false := by rfl) :
    CE c (.Call (.Name x p) [e1, e2] [] pos) Γ L (m1.bind fun x1 => m2.bind fun x2 => g x1 x2) := by
  obtain ⟨fd, F, b⟩ := C.ok
  exact ce_call2 F hr hg C.gm C.kp b .nil (fun _ => .nil) tk (fun {x1 x2} => ⟨x1, x2, rfl, rfl⟩) h1 h2 hdb s1 s2 hpl
theorem ce_c3 {t1 t2 t3 β : Type} [Enc t1] [Enc t2] [Enc t3] [Enc β] {g : t1 → t2 → t3 → M β} {e1 e2 e3 : Expr} {m1 : M t1} {m2 : M t2} {m3 : M t3} (C : Callable c.X.prog c.X.w c.X.K c.X.mg c.X.base c.cA k x f ps (Fv3 g)) (hr : Room k c.X.A) (hg : Gl c.X x) (tk : Takes c.X c.W) (h1 : CE c e1 Γ L m1) (h2 : CE c e2 Γ L m2) (h3 : CE c e3 Γ L m3)
    (hdb : (x == ("__debug__" : Str)) = false := by decide) (s1 : starEach [e1, e2, e3] c.X.env = (false, eval e1 c.X.env) :: starEach [e2, e3] c.X.env := by rfl) (s2 : starEach [e2, e3] c.X.env = (false, eval e2 c.X.env) :: starEach [e3] c.X.env := by rfl) (s3 : starEach [e3] c.X.env = (false, eval e3 c.X.env) :: starEach [] c.X.env := by rfl) (hpl : (backTo pos (starEach [e2, e3] c.X.env)).any (·.1) = false := by rfl) :
    CE c (.Call (.Name x p) [e1, e2, e3] [] pos) Γ L (m1.bind fun x1 => m2.bind fun x2 => m3.bind fun x3 => g x1 x2 x3) := by
  obtain ⟨fd, F, b⟩ := C.ok
  exact ce_call3 F hr hg C.gm C.kp b .nil (fun _ => .nil) tk (fun {x1 x2 x3} => ⟨x1, x2, x3, rfl, rfl⟩) h1 h2 h3 hdb s1 s2 s3 hpl
theorem ce_c4 {t1 t2 t3 t4 β : Type} [Enc t1] [Enc t2] [Enc t3] [Enc t4] [Enc β] {g : t1 → t2 → t3 → t4 → M β} {e1 e2 e3 e4 : Expr} {m1 : M t1} {m2 : M t2} {m3 : M t3} {m4 : M t4} (C : Callable c.X.prog c.X.w c.X.K c.X.mg c.X.base c.cA k x f ps (Fv4 g)) (hr : Room k c.X.A) (hg : Gl c.X x) (tk : Takes c.X c.W) (h1 : CE c e1 Γ L m1) (h2 : CE c e2 Γ L m2) (h3 : CE c e3 Γ L m3) (h4 : CE c e4 Γ L m4)
    (hdb : (x == ("__debug__" : Str)) = false := by decide) (s1 : starEach [e1, e2, e3, e4] c.X.env = (false, eval e1 c.X.env) :: starEach [e2, e3, e4] c.X.env := by rfl) (s2 : starEach [e2, e3, e4] c.X.env = (false, eval e2 c.X.env) :: starEach [e3, e4] c.X.env := by rfl) (s3 : starEach [e3, e4] c.X.env = (false, eval e3 c.X.env) :: starEach [e4] c.X.env := by rfl) (s4 : starEach [e4] c.X.env = (false, eval e4 c.X.env) :: starEach [] c.X.env := by rfl) (hpl : (backTo pos (starEach [e2, e3, e4] c.X.env)).any (·.1) = false := by rfl) :
    CE c (.Call (.Name x p) [e1, e2, e3, e4] [] pos) Γ L (m1.bind fun x1 => m2.bind fun x2 => m3.bind fun x3 => m4.bind fun x4 => g x1 x2 x3 x4) := by
  obtain ⟨fd, F, b⟩ := C.ok
  exact ce_call4 F hr hg C.gm C.kp b .nil (fun _ => .nil) tk (fun {x1 x2 x3 x4} => ⟨x1, x2, x3, x4, rfl, rfl⟩) h1 h2 h3 h4 hdb s1 s2 s3 s4 hpl
theorem ce_c5 {t1 t2 t3 t4 t5 β : Type} [Enc t1] [Enc t2] [Enc t3] [Enc t4] [Enc t5] [Enc β] {g : t1 → t2 → t3 → t4 → t5 → M β} {e1 e2 e3 e4 e5 : Expr} {m1 : M t1} {m2 : M t2} {m3 : M t3} {m4 : M t4} {m5 : M t5} (C : Callable c.X.prog c.X.w c.X.K c.X.mg c.X.base c.cA k x f ps (Fv5 g)) (hr : Room k c.X.A) (hg : Gl c.X x) (tk : Takes c.X c.W) (h1 : CE c e1 Γ L m1) (h2 : CE c e2 Γ L m2) (h3 : CE c e3 Γ L m3) (h4 : CE c e4 Γ L m4) (h5 : CE c e5 Γ L m5)
    (hdb : (x == ("__debug__" : Str)) = false := by decide) (s1 : starEach [e1, e2, e3, e4, e5] c.X.env = (false, eval e1 c.X.env) :: starEach [e2, e3, e4, e5] c.X.env := by rfl) (s2 : starEach [e2, e3, e4, e5] c.X.env = (false, eval e2 c.X.env) :: starEach [e3, e4, e5] c.X.env := by rfl) (s3 : starEach [e3, e4, e5] c.X.env = (false, eval e3 c.X.env) :: starEach [e4, e5] c.X.env := by rfl) (s4 : starEach [e4, e5] c.X.env = (false, eval e4 c.X.env) :: starEach [e5] c.X.env := by rfl) (s5 : starEach [e5] c.X.env = (false, eval e5 c.X.env) :: starEach [] c.X.env := by rfl) (hpl : (backTo pos (starEach [e2, e3, e4, e5] c.X.env)).any (·.1) = false := by rfl) :
    CE c (.Call (.Name x p) [e1, e2, e3, e4, e5] [] pos) Γ L (m1.bind fun x1 => m2.bind fun x2 => m3.bind fun x3 => m4.bind fun x4 => m5.bind fun x5 => g x1 x2 x3 x4 x5) := by
  obtain ⟨fd, F, b⟩ := C.ok
  exact ce_call5 F hr hg C.gm C.kp b .nil (fun _ => .nil) tk (fun {x1 x2 x3 x4 x5} => ⟨x1, x2, x3, x4, x5, rfl, rfl⟩) h1 h2 h3 h4 h5 hdb s1 s2 s3 s4 s5 hpl
theorem ce_c6 {t1 t2 t3 t4 t5 t6 β : Type} [Enc t1] [Enc t2] [Enc t3] [Enc t4] [Enc t5] [Enc t6] [Enc β] {g : t1 → t2 → t3 → t4 → t5 → t6 → M β} {e1 e2 e3 e4 e5 e6 : Expr} {m1 : M t1} {m2 : M t2} {m3 : M t3} {m4 : M t4} {m5 : M t5} {m6 : M t6} (C : Callable c.X.prog c.X.w c.X.K c.X.mg c.X.base c.cA k x f ps (Fv6 g)) (hr : Room k c.X.A) (hg : Gl c.X x) (tk : Takes c.X c.W) (h1 : CE c e1 Γ L m1) (h2 : CE c e2 Γ L m2) (h3 : CE c e3 Γ L m3) (h4 : CE c e4 Γ L m4) (h5 : CE c e5 Γ L m5) (h6 : CE c e6 Γ L m6)
    (hdb : (x == ("__debug__" : Str)) = false := by decide) (s1 : starEach [e1, e2, e3, e4, e5, e6] c.X.env = (false, eval e1 c.X.env) :: starEach [e2, e3, e4, e5, e6] c.X.env := by rfl) (s2 : starEach [e2, e3, e4, e5, e6] c.X.env = (false, eval e2 c.X.env) :: starEach [e3, e4, e5, e6] c.X.env := by rfl) (s3 : starEach [e3, e4, e5, e6] c.X.env = (false, eval e3 c.X.env) :: starEach [e4, e5, e6] c.X.env := by rfl) (s4 : starEach [e4, e5, e6] c.X.env = (false, eval e4 c.X.env) :: starEach [e5, e6] c.X.env := by rfl) (s5 : starEach [e5, e6] c.X.env = (false, eval e5 c.X.env) :: starEach [e6] c.X.env := by rfl) (s6 : starEach [e6] c.X.env = (false, eval e6 c.X.env) :: starEach [] c.X.env := by rfl) (hpl : (backTo pos (starEach [e2, e3, e4, e5, e6] c.X.env)).any (·.1) = false := by rfl) :
    CE c (.Call (.Name x p) [e1, e2, e3, e4, e5, e6] [] pos) Γ L (m1.bind fun x1 => m2.bind fun x2 => m3.bind fun x3 => m4.bind fun x4 => m5.bind fun x5 => m6.bind fun x6 => g x1 x2 x3 x4 x5 x6) := by
  obtain ⟨fd, F, b⟩ := C.ok
  exact ce_call6 F hr hg C.gm C.kp b .nil (fun _ => .nil) tk (fun {x1 x2 x3 x4 x5 x6} => ⟨x1, x2, x3, x4, x5, x6, rfl, rfl⟩) h1 h2 h3 h4 h5 h6 hdb s1 s2 s3 s4 s5 s6 hpl
theorem ce_c7 {t1 t2 t3 t4 t5 t6 t7 β : Type} [Enc t1] [Enc t2] [Enc t3] [Enc t4] [Enc t5] [Enc t6] [Enc t7] [Enc β] {g : t1 → t2 → t3 → t4 → t5 → t6 → t7 → M β} {e1 e2 e3 e4 e5 e6 e7 : Expr} {m1 : M t1} {m2 : M t2} {m3 : M t3} {m4 : M t4} {m5 : M t5} {m6 : M t6} {m7 : M t7} (C : Callable c.X.prog c.X.w c.X.K c.X.mg c.X.base c.cA k x f ps (Fv7 g)) (hr : Room k c.X.A) (hg : Gl c.X x) (tk : Takes c.X c.W) (h1 : CE c e1 Γ L m1) (h2 : CE c e2 Γ L m2) (h3 : CE c e3 Γ L m3) (h4 : CE c e4 Γ L m4) (h5 : CE c e5 Γ L m5) (h6 : CE c e6 Γ L m6) (h7 : CE c e7 Γ L m7)
    (hdb : (x == ("__debug__" : Str)) = false := by decide) (s1 : starEach [e1, e2, e3, e4, e5, e6, e7] c.X.env = (false, eval e1 c.X.env) :: starEach [e2, e3, e4, e5, e6, e7] c.X.env := by rfl) (s2 : starEach [e2, e3, e4, e5, e6, e7] c.X.env = (false, eval e2 c.X.env) :: starEach [e3, e4, e5, e6, e7] c.X.env := by rfl) (s3 : starEach [e3, e4, e5, e6, e7] c.X.env = (false, eval e3 c.X.env) :: starEach [e4, e5, e6, e7] c.X.env := by rfl) (s4 : starEach [e4, e5, e6, e7] c.X.env = (false, eval e4 c.X.env) :: starEach [e5, e6, e7] c.X.env := by rfl) (s5 : starEach [e5, e6, e7] c.X.env = (false, eval e5 c.X.env) :: starEach [e6, e7] c.X.env := by rfl) (s6 : starEach [e6, e7] c.X.env = (false, eval e6 c.X.env) :: starEach [e7] c.X.env := by rfl) (s7 : starEach [e7] c.X.env = (false, eval e7 c.X.env) :: starEach [] c.X.env := by rfl) (hpl : (backTo pos (starEach [e2, e3, e4, e5, e6, e7] c.X.env)).any (·.1) = false := by rfl) :
    CE c (.Call (.Name x p) [e1, e2, e3, e4, e5, e6, e7] [] pos) Γ L (m1.bind fun x1 => m2.bind fun x2 => m3.bind fun x3 => m4.bind fun x4 => m5.bind fun x5 => m6.bind fun x6 => m7.bind fun x7 => g x1 x2 x3 x4 x5 x6 x7) := by
  obtain ⟨fd, F, b⟩ := C.ok
  exact ce_call7 F hr hg C.gm C.kp b .nil (fun _ => .nil) tk (fun {x1 x2 x3 x4 x5 x6 x7} => ⟨x1, x2, x3, x4, x5, x6, x7, rfl, rfl⟩) h1 h2 h3 h4 h5 h6 h7 hdb s1 s2 s3 s4 s5 s6 s7 hpl
theorem ce_c8 {t1 t2 t3 t4 t5 t6 t7 t8 β : Type} [Enc t1] [Enc t2] [Enc t3] [Enc t4] [Enc t5] [Enc t6] [Enc t7] [Enc t8] [Enc β] {g : t1 → t2 → t3 → t4 → t5 → t6 → t7 → t8 → M β} {e1 e2 e3 e4 e5 e6 e7 e8 : Expr} {m1 : M t1} {m2 : M t2} {m3 : M t3} {m4 : M t4} {m5 : M t5} {m6 : M t6} {m7 : M t7} {m8 : M t8} (C : Callable c.X.prog c.X.w c.X.K c.X.mg c.X.base c.cA k x f ps (Fv8 g)) (hr : Room k c.X.A) (hg : Gl c.X x) (tk : Takes c.X c.W) (h1 : CE c e1 Γ L m1) (h2 : CE c e2 Γ L m2) (h3 : CE c e3 Γ L m3) (h4 : CE c e4 Γ L m4) (h5 : CE c e5 Γ L m5) (h6 : CE c e6 Γ L m6) (h7 : CE c e7 Γ L m7) (h8 : CE c e8 Γ L m8)
    (hdb : (x == ("__debug__" : Str)) = false := by decide) (s1 : starEach [e1, e2, e3, e4, e5, e6, e7, e8] c.X.env = (false, eval e1 c.X.env) :: starEach [e2, e3, e4, e5, e6, e7, e8] c.X.env := by rfl) (s2 : starEach [e2, e3, e4, e5, e6, e7, e8] c.X.env = (false, eval e2 c.X.env) :: starEach [e3, e4, e5, e6, e7, e8] c.X.env := by rfl) (s3 : starEach [e3, e4, e5, e6, e7, e8] c.X.env = (false, eval e3 c.X.env) :: starEach [e4, e5, e6, e7, e8] c.X.env := by rfl) (s4 : starEach [e4, e5, e6, e7, e8] c.X.env = (false, eval e4 c.X.env) :: starEach [e5, e6, e7, e8] c.X.env := by rfl) (s5 : starEach [e5, e6, e7, e8] c.X.env = (false, eval e5 c.X.env) :: starEach [e6, e7, e8] c.X.env := by rfl) (s6 : starEach [e6, e7, e8] c.X.env = (false, eval e6 c.X.env) :: starEach [e7, e8] c.X.env := by rfl) (s7 : starEach [e7, e8] c.X.env = (false, eval e7 c.X.env) :: starEach [e8] c.X.env := by rfl) (s8 : starEach [e8] c.X.env = (false, eval e8 c.X.env) :: starEach [] c.X.env := by rfl) (hpl : (backTo pos (starEach [e2, e3, e4, e5, e6, e7, e8] c.X.env)).any (·.1) = false := by rfl) :
    CE c (.Call (.Name x p) [e1, e2, e3, e4, e5, e6, e7, e8] [] pos) Γ L (m1.bind fun x1 => m2.bind fun x2 => m3.bind fun x3 => m4.bind fun x4 => m5.bind fun x5 => m6.bind fun x6 => m7.bind fun x7 => m8.bind fun x8 => g x1 x2 x3 x4 x5 x6 x7 x8) := by
  obtain ⟨fd, F, b⟩ := C.ok
  exact ce_call8 F hr hg C.gm C.kp b .nil (fun _ => .nil) tk (fun {x1 x2 x3 x4 x5 x6 x7 x8} => ⟨x1, x2, x3, x4, x5, x6, x7, x8, rfl, rfl⟩) h1 h2 h3 h4 h5 h6 h7 h8 hdb s1 s2 s3 s4 s5 s6 s7 s8 hpl
end
end Pf

/-! P7: what is in a sequence, subscripts, slices, built-ins, methods, appends. -/
namespace Pf
open PySem PySem.Spec L2
open PyProof.Rows hiding St
open M (need some!)

section
variable {c : Cfg} {Γ : Fm} {L : Led} {α β γ : Type} [Enc α] [Enc β] [Enc γ]

/-! ### in -/
/-- y's data is equal to d (whichever data y is) -/
def eqTo (K : PySem.W.Frag) (cA : Str → Addr) (G : Hp) (n : Nat) (d : D) (y : Value) : Prop := ∃ v e, RelV v y ∧ Rp K cA G v e ∧ D.pl n e = true ∧ D.eqv e d = true
open Classical in
noncomputable def eqToB (K : PySem.W.Frag) (cA : Str → Addr) (G : Hp) (n : Nat) (d : D) (y : Value) : Bool := decide (eqTo K cA G n d y)
theorem eqToB_of {X : Cx} {pins : List (Addr × Obj)} {σ : L2.St} {H G : Hp} {s : Shared} {cA : Str → Addr} (I : Inv X pins σ H s) (sg : Sub G H) {n : Nat} {d e : D} {v : V} {y : Value} (r : RelV v y) (p : Rp X.K cA G v e) (pe : D.pl n e = true) :
    eqToB X.K cA G n d y = D.eqv e d := by
  have h1 : eqTo X.K cA G n d y ↔ D.eqv e d = true := by
    constructor
    · rintro ⟨v', e', r', p', pe', q⟩
      have z := r.inj r'
      subst z
      have := Rp.one (fun h h' => I.list_inj (sg.sl h) (sg.sl h')) (fun h h' => I.tuple_inj (sg.st h) (sg.st h')) (fun h h' => seq_apart I (sg.sl h) (sg.st h')) n pe pe' p p'
      subst this
      exact q
    · exact fun q => ⟨v, e, r, p, pe, q⟩
  unfold eqToB
  classical
  by_cases h : D.eqv e d = true
  · rw [h, decide_eq_true (h1.mpr h)]
  · rw [decide_eq_false (fun z => h (h1.mp z))]
    cases hh : D.eqv e d with
    | true => exact absurd hh h
    | false => rfl
theorem items_eq {X : Cx} {pins : List (Addr × Obj)} {σ : L2.St} {H G : Hp} {s : Shared} {cA : Str → Addr} (I : Inv X pins σ H s) (sg : Sub G H) [DecidableEq α] [Pl α] {x : α} {v : V} {u : Value} (rv : RelV v u) (pv : Rp X.K cA G v (enc x)) {A : Around} (hu : A.units + 1 + Pl.dep α < cLine) :
    ∀ {xs : List α} {vs : List V} {its : List Value}, Vals vs its → RpAll X.K cA G vs (encL xs) → (∀ y ∈ its, SeqAt.EqAt A.in1 s y u (eqToB X.K cA G (Pl.dep α) (enc x) y)) ∧ its.any (eqToB X.K cA G (Pl.dep α) (enc x)) = decide (x ∈ xs)
  | [], _, _, r, q => by
    cases q
    cases r
    exact ⟨fun y hy => (by cases hy), rfl⟩
  | z :: xs, _, _, r, q => by
    cases q with
    | cons q1 q2 =>
      cases r with
      | cons r1 r2 =>
        obtain ⟨i1, i2⟩ := items_eq I sg rv pv hu (xs := xs) r2 q2
        have e1 := eqToB_of (d := enc x) I sg r1 q1 (Pl.pl z)
        constructor
        · intro y hy
          rcases List.mem_cons.mp hy with rfl | hy
          · rw [e1]
            exact eqAt_pl I sg (Pl.dep α) r1 rv q1 pv (Pl.pl z) (Pl.pl x) (by show A.units + 1 + _ < _; exact hu)
          · exact i1 y hy
        · rw [List.any_cons, i2, e1, Pl.eqv]
          by_cases h : z = x
          · subst h; simp
          · rw [decide_eq_false h, Bool.false_or]
            by_cases h2 : x ∈ xs
            · rw [decide_eq_true h2, decide_eq_true (List.mem_cons_of_mem _ h2)]
            · rw [decide_eq_false h2, decide_eq_false (fun z' => by rcases List.mem_cons.mp z' with w | w; exact h w.symm; exact h2 w)]
theorem bop_inL [DecidableEq α] [Pl α] {x : α} {xs : List α} (hu : c.X.A.units + 64 < cLine) (hd : Pl.dep α ≤ 60 := by decide) : BOp c (compareOp .In) x xs (.ok (decide (x ∈ xs))) := fun G H σ v u Q s r r' p => by
  intro pins sh σ' v' u' I rx ry
  have r' : Rp c.K c.cA G u (.lst (encL xs)) := r'
  cases r' with
  | lst hl ha =>
    obtain ⟨its, rv, pl, _⟩ := I.list (s.sl hl)
    cases ry
    obtain ⟨i1, i2⟩ := items_eq (A := c.X.A) I s rx r (by omega) rv ha
    exact SeqAt.in_listAt _ pl.isList (fun y hy => i1 y (by simpa using hy)) ⟨.bl _, H, I, rfl, by rw [List.any_toArray, i2]; exact p.val s (.bl _)⟩
theorem bop_niL [DecidableEq α] [Pl α] {x : α} {xs : List α} (hu : c.X.A.units + 64 < cLine) (hd : Pl.dep α ≤ 60 := by decide) : BOp c (compareOp .NotIn) x xs (.ok (!decide (x ∈ xs))) := fun G H σ v u Q s r r' p => by
  intro pins sh σ' v' u' I rx ry
  have r' : Rp c.K c.cA G u (.lst (encL xs)) := r'
  cases r' with
  | lst hl ha =>
    obtain ⟨its, rv, pl, _⟩ := I.list (s.sl hl)
    cases ry
    obtain ⟨i1, i2⟩ := items_eq (A := c.X.A) I s rx r (by omega) rv ha
    exact SeqAt.notIn_listAt _ pl.isList (fun y hy => i1 y (by simpa using hy)) ⟨.bl _, H, I, rfl, by rw [List.any_toArray, i2]; exact p.val s (.bl _)⟩
theorem bop_inT [DecidableEq α] [Pl α] {x : α} {xs : Tup α} (hu : c.X.A.units + 64 < cLine) (hd : Pl.dep α ≤ 60 := by decide) : BOp c (compareOp .In) x xs (.ok (decide (x ∈ xs.l))) := fun G H σ v u Q s r r' p => by
  intro pins sh σ' v' u' I rx ry
  have r' : Rp c.K c.cA G u (.tup (encL xs.l)) := r'
  cases r' with
  | tup hl ha =>
    obtain ⟨its, rv, pl, _⟩ := I.tuple (s.st hl)
    cases ry
    obtain ⟨i1, i2⟩ := items_eq (A := c.X.A) I s rx r (by omega) rv ha
    exact SeqAt.in_tupleAt _ pl (fun y hy => i1 y (by simpa using hy)) ⟨.bl _, H, I, rfl, by rw [List.any_toArray, i2]; exact p.val s (.bl _)⟩
theorem bop_niT [DecidableEq α] [Pl α] {x : α} {xs : Tup α} (hu : c.X.A.units + 64 < cLine) (hd : Pl.dep α ≤ 60 := by decide) : BOp c (compareOp .NotIn) x xs (.ok (!decide (x ∈ xs.l))) := fun G H σ v u Q s r r' p => by
  intro pins sh σ' v' u' I rx ry
  have r' : Rp c.K c.cA G u (.tup (encL xs.l)) := r'
  cases r' with
  | tup hl ha =>
    obtain ⟨its, rv, pl, _⟩ := I.tuple (s.st hl)
    cases ry
    obtain ⟨i1, i2⟩ := items_eq (A := c.X.A) I s rx r (by omega) rv ha
    exact SeqAt.notIn_tupleAt _ pl (fun y hy => i1 y (by simpa using hy)) ⟨.bl _, H, I, rfl, by rw [List.any_toArray, i2]; exact p.val s (.bl _)⟩
/-- one sign of a text -/
structure Ch where
  code : Nat
  deriving DecidableEq, Inhabited
def Ch.str (x : Ch) : Str := ⟨#[x.code]⟩
instance : Enc Ch := ⟨fun x => .str x.str⟩
instance : NN Ch := ⟨fun x => ⟨rfl, rfl, fun z => nomatch (show D.str x.str = .non from z)⟩⟩
instance : Pl Ch := ⟨0, fun _ => rfl, fun x y => by
  show (x.str == y.str) = _
  rw [Bool.beq_eq_decide_eq]
  obtain ⟨a⟩ := x
  obtain ⟨b⟩ := y
  by_cases h : a = b
  · subst h; simp
  · rw [decide_eq_false (fun z => h (by have z : Str.mk #[a] = Str.mk #[b] := z; injection z with z; simpa using z)), decide_eq_false (fun z => h (Ch.mk.inj z))]⟩
theorem bop_inC {x : Ch} {z : Str} : BOp c (compareOp .In) x z (.ok (decide (x.code ∈ z.cps.toList))) := fun G H σ v u Q s r r' p => by
  have r : Rp c.K c.cA G v (.str x.str) := r
  cases r; cases r'
  exact wpO_of op_in_sign ⟨x.code, z, rfl, rfl, p.val s (.bl _)⟩
theorem bop_niC {x : Ch} {z : Str} : BOp c (compareOp .NotIn) x z (.ok (!decide (x.code ∈ z.cps.toList))) := fun G H σ v u Q s r r' p => by
  have r : Rp c.K c.cA G v (.str x.str) := r
  cases r; cases r'
  exact wpO_of op_notIn_sign ⟨x.code, z, rfl, rfl, p.val s (.bl _)⟩
theorem ce_chS {e : Expr} {m : M Ch} (h : CE c e Γ L m) : CE c e Γ L (m.bind fun x => .ok x.str) := ce_as (f := Ch.str) h fun _ => rfl
/-- the signs of a text -/
def signs (z : Str) : List Ch := z.cps.toList.map Ch.mk
theorem ci_str {tg e : Expr} {m : M Str} (h : CE c e Γ L m) : CI c tg e Γ L (m.bind fun z => need (decide (z.length ≤ sizeLine)) (.ok (signs z))) := fun B G0 G H σ R s p => by
  refine wpI_of (pi_str pe_wp) ?_
  show wpE c.X e σ H fun v H1 => ∃ x, v = .str x ∧ R (Its x) H1
  cases m with
  | stuck => exact p.elim
  | raise z => exact h B G0 G H σ _ s p
  | ok z =>
    refine h B G0 G H σ _ s fun v G' H' e r => ?_
    cases r
    have hz : z.length ≤ sizeLine := by
      by_cases h : z.length ≤ sizeLine
      · exact h
      · have p : PstI c G H σ R (need (decide (z.length ≤ sizeLine)) (.ok (signs z))) := p
        rw [decide_eq_false h] at p
        exact p.elim
    have p : PstI c G H σ R (need (decide (z.length ≤ sizeLine)) (.ok (signs z))) := p
    rw [M.need_true _ (decide_eq_true hz)] at p
    refine ⟨z, rfl, p _ G' H' e ⟨fun _ _ _ => by unfold signs; rw [List.length_map, Array.length_toList]; exact hz, _, _, by
      have := walk_str (z := z)
      rw [show (signs z).length = z.cps.size by unfold signs; simp]
      exact this, fun _ _ => trivial, fun i x H1 v H2 G1 hx hy sg s1 => ?_⟩⟩
    obtain ⟨rfl, k, hk, rfl⟩ := hy
    unfold signs at hx
    rw [List.getElem?_map, Array.getElem?_toList, hk] at hx
    cases hx
    exact ⟨G1, Ext.refl s1, .str _⟩

/-! ### subscripts -/
def idx (xs : List α) (i : Int) : M α := some! (atI xs i)
def idxS (z : Str) (i : Int) : M Ch := some! ((atI z.cps.toList i).map Ch.mk)
theorem atI_enc {xs : List α} {i : Int} {x : α} (h : atI xs i = some x) : atI (encL xs) i = some (enc x) := by
  unfold atI at h ⊢
  unfold encL
  rw [List.length_map]
  cases hi : ixN xs.length i with
  | none => rw [hi] at h; cases h
  | some j =>
    rw [hi] at h
    show (xs.map enc)[j]? = some (enc x)
    rw [List.getElem?_map, show xs[j]? = some x from h]
    rfl
theorem atI_rp {K : PySem.W.Frag} {cA : Str → Addr} {G : Hp} {vs : List V} {ds : List D} {i : Int} {d : D} (r : RpAll K cA G vs ds) (h : atI ds i = some d) : ∃ v, atI vs i = some v ∧ Rp K cA G v d := by
  unfold atI at h ⊢
  rw [r.length]
  cases hi : ixN ds.length i with
  | none => rw [hi] at h; cases h
  | some j =>
    rw [hi] at h
    exact r.get (show ds[j]? = some d from h)
def wpX (X : Cx) : R2 := fun x y H Q => ∀ (value slice : Expr) (pins : List (Addr × Obj)) (s : Shared) (σ : L2.St) (v u : Value), Inv X pins σ H s → RelV x v → RelV y u →
    subscripted slice false v u = operate [v, u] (getItem v u) → wpAny (model X.prog X.w) X.A (subscriptTail value slice v u) (EP X pins σ Q) X.xe s
theorem ix_wp {X : Cx} : IxR X (wpX X) := fun value slice pins s σ H x y v u Q I r r' h k => h value slice pins s σ v u I r r' k
theorem wpX_of {X : Cx} {r : R2} (h : IxR X r) {x y : V} {H : Hp} {Q : VK} (q : r x y H Q) : wpX X x y H Q := fun value slice pins s σ v u I a b k => h value slice pins s σ H x y v u Q I a b q k
def XOp (c : Cfg) (x : α) (y : β) (m : M γ) : Prop :=
  ∀ (G H : Hp) (σ : L2.St) (v u : V) (Q : VK), Sub G H → Rp c.K c.cA G v (enc x) → Rp c.K c.cA G u (enc y) → Pst c G H σ Q m → wpX c.X v u H Q
theorem ce_sub {a b : Expr} {pos : Pos} {ma : M α} {mb : M β} {g : α → β → M γ} (ho : ∀ x y, XOp c x y (g x y)) (ha : CE c a Γ L ma) (hb : CE c b Γ L mb) (hs : PlainIx b := by exact fun _ _ => rfl) :
    CE c (.Subscript a b pos) Γ L (ma.bind fun x => mb.bind fun y => g x y) := fun B G0 G H σ Q s p => by
  refine wpE_of (pe_ix ix_wp pe_wp pe_wp hs) ?_
  refine ha.then (P := Pst c G H σ Q) s p (fun z => z) (fun e z => z) fun x v G1 H1 p e1 s1 r1 => ?_
  refine hb.then (P := Pst c G1 H1 σ Q) s1 (p.ext e1) (fun z => z) (fun e z => z) fun y u G2 H2 p e2 s2 r2 => ?_
  exact ho x y G2 H2 σ v u Q s2.gh (r1.mono e2.g) r2 (p.ext e2)
theorem Pst.some! {G H : Hp} {σ : L2.St} {Q : VK} {o : Option α} (p : Pst c G H σ Q (some! o)) : ∃ x, o = some x ∧ Pst c G H σ Q (.ok x) := by
  cases o with
  | none => exact p.elim
  | some x => exact ⟨x, rfl, p⟩
theorem xop_list {xs : List α} {i : Int} : XOp c xs i (idx xs i) := fun G H σ v u Q s r r' p => by
  obtain ⟨x, hx, p⟩ := Pst.some! p
  have r : Rp c.K c.cA G v (.lst (encL xs)) := r
  cases r'
  cases r with
  | lst hl ha =>
    obtain ⟨w', hw, rw'⟩ := atI_rp ha (atI_enc hx)
    exact wpX_of ix_list ⟨_, _, _, _, rfl, rfl, s.sl hl, hw, p.val s rw'⟩
theorem xop_tup {xs : Tup α} {i : Int} : XOp c xs i (idx xs.l i) := fun G H σ v u Q s r r' p => by
  obtain ⟨x, hx, p⟩ := Pst.some! p
  have r : Rp c.K c.cA G v (.tup (encL xs.l)) := r
  cases r'
  cases r with
  | tup hl ha =>
    obtain ⟨w', hw, rw'⟩ := atI_rp ha (atI_enc hx)
    exact wpX_of ix_tup ⟨_, _, _, _, rfl, rfl, s.st hl, hw, p.val s rw'⟩
theorem xop_str {z : Str} {i : Int} : XOp c z i (need (decide (z.length ≤ sizeLine)) (idxS z i)) := fun G H σ v u Q s r r' p => by
  obtain ⟨h, p⟩ := p.need
  obtain ⟨x, hx, p⟩ := Pst.some! p
  cases r; cases r'
  cases ha : atI z.cps.toList i with
  | none => rw [ha] at hx; cases hx
  | some k =>
    rw [ha] at hx
    cases hx
    exact wpX_of ix_str ⟨z, i, k, rfl, rfl, of_decide_eq_true h, ha, p.val s (.str _)⟩
/-- a part of a tuple, by a written number -/
theorem ce_part {a b : Expr} {pos : Pos} {m : M α} {i : Int} {f : α → β} (ha : CE c a Γ L m) (hb : CE c b Γ L (.ok i)) (hf : ∀ x : α, ∃ ds, enc x = .tup ds ∧ atI ds i = some (enc (f x)) := by exact fun _ => ⟨_, rfl, rfl⟩) (hs : PlainIx b := by exact fun _ _ => rfl) :
    CE c (.Subscript a b pos) Γ L (m.bind fun x => .ok (f x)) := fun B G0 G H σ Q s p => by
  refine wpE_of (pe_ix ix_wp pe_wp pe_wp hs) ?_
  refine ha.then (P := Pst c G H σ Q) s p (fun z => z) (fun e z => z) fun x v G1 H1 p e1 s1 r1 => ?_
  refine hb B G0 G1 H1 σ _ s1 fun u G2 H2 e2 r2 => ?_
  obtain ⟨ds, e, hd⟩ := hf x
  rw [e] at r1
  cases r2
  cases r1 with
  | tup hl hr =>
    obtain ⟨w', hw, rw'⟩ := atI_rp hr hd
    exact wpX_of ix_tup ⟨_, _, _, _, rfl, rfl, s1.gh.trans e2.h |>.st hl, hw, p w' G2 H2 (e1.trans e2) (rw'.mono e2.g)⟩
end
end Pf

/-! P8: slices, built-ins, methods, appends, comprehensions. -/
namespace Pf
open PySem PySem.Spec L2
open PyProof.Rows hiding St
open M (need some!)

section
variable {c : Cfg} {Γ xf : Fm} {L xl : Led} {α β γ O : Type} [Enc α] [Enc β] [Enc γ] {κ : O → Outc} {rest : List Stmt}

/-! ### slices -/
/-- a part of a slice, or none -/
def CO (c : Cfg) (e : Option Expr) (Γ : Fm) (L : Led) (m : M (Option Int)) : Prop :=
  (e = none ∧ m = .ok none) ∨ ∃ e' m', e = some e' ∧ CE c e' Γ L m' ∧ m = m'.bind fun (i : Int) => .ok (some i)
theorem co_none : CO c none Γ L (.ok none) := .inl ⟨rfl, rfl⟩
theorem co_some {e : Expr} {m : M Int} (h : CE c e Γ L m) : CO c (some e) Γ L (m.bind fun i => .ok (some i)) := .inr ⟨e, m, rfl, h, rfl⟩
def wpP (X : Cx) (e : Option Expr) : TO := fun σ H Q => ∀ (pins : List (Addr × Obj)) (s : Shared), Inv X pins σ H s → wpAny (model X.prog X.w) X.A (evalPart e X.env) (fun u s' => ∃ o H', Inv X pins σ H' s' ∧ IsPart u o ∧ Q o H') X.xe s
theorem po_wp {X : Cx} {e : Option Expr} : PO X e (wpP X e) := ⟨fun pins s σ H Q I h => h pins s I⟩
theorem wpP_of {X : Cx} {e : Option Expr} {t : TO} (h : PO X e t) {σ : L2.St} {H : Hp} {Q : Option Int → Hp → Prop} (q : t σ H Q) : wpP X e σ H Q := fun pins s I => h.run pins s σ H Q I q
theorem CO.then {τ : Type} {e : Option Expr} {m : M (Option Int)} {k : Option Int → M τ} {B G0 G H : Hp} {σ : L2.St} {R : Option Int → Hp → Prop} {P : M τ → Prop} (h : CO c e Γ L m) (s : Stt c.K c.cA B G0 G H σ Γ L)
    (p : P (m.bind k)) (hs : ¬ P .stuck) (hr : ∀ e, P (.raise e) → Pst (α := Int) c G H σ (fun _ _ => False) (.raise e))
    (ho : ∀ x G' H', P (k x) → Ext G H G' H' → Stt c.K c.cA B G0 G' H' σ Γ L → R x H') : wpP c.X e σ H R := by
  rcases h with ⟨rfl, rfl⟩ | ⟨e', m', rfl, h, rfl⟩
  · exact wpP_of po_none (ho none G H p (Ext.refl s.gh) s)
  · refine wpP_of (po_some pe_wp) ?_
    rw [M.bind_assoc] at p
    refine h.then (P := P) s p hs (fun e z => hr e z) fun i v G1 H1 p e1 s1 r1 => ?_
    cases r1
    exact ⟨i, rfl, ho (some i) G1 H1 p e1 s1⟩
def cutL (xs : List α) (lo hi : Option Int) : List α := (xs.drop (HT.sIx xs.length 0 lo)).take (HT.sIx xs.length xs.length hi - HT.sIx xs.length 0 lo)
theorem cutV_rp {K : PySem.W.Frag} {cA : Str → Addr} {G : Hp} {vs : List V} {xs : List α} {lo hi : Option Int} (r : RpAll K cA G vs (encL xs)) : RpAll K cA G (cutV vs lo hi) (encL (cutL xs lo hi)) := by
  have hl : vs.length = xs.length := by rw [r.length]; unfold encL; rw [List.length_map]
  unfold cutV cutL
  rw [hl]
  have := (r.drop (HT.sIx xs.length 0 lo)).take (HT.sIx xs.length xs.length hi - HT.sIx xs.length 0 lo)
  unfold encL at this ⊢
  rw [List.map_take, List.map_drop]
  exact this
theorem cn_slice {e : Expr} {lo hi : Option Expr} {pos p2 : Pos} {m : M (List α)} {ml mh : M (Option Int)} (he : CE c e Γ L m) (hl : CO c lo Γ L ml) (hh : CO c hi Γ L mh) :
    CN c (.Subscript e (.Slice lo hi none p2) pos) Γ L (m.bind fun xs => ml.bind fun i => mh.bind fun j => .ok (cutL xs i j)) := fun B G0 G H σ Q s p => by
  refine wpE_of (pe_slice sl_list pe_wp po_wp po_wp) ?_
  refine he.then (P := PstN c G H σ Q) s p (fun z => z) (fun e z => z) fun xs v G1 H1 p e1 s1 r1 => ?_
  refine hl.then (P := PstN c G1 H1 σ Q) s1 (p.ext e1) (fun z => z) (fun e z => z) fun i G2 H2 p e2 s2 => ?_
  refine hh.then (P := PstN c G2 H2 σ Q) s2 (p.ext e2) (fun z => z) (fun e z => z) fun j G3 H3 p e3 s3 => ?_
  have r1 : Rp c.K c.cA G1 v (.lst (encL xs)) := r1
  cases r1 with
  | lst hl ha =>
    refine ⟨_, _, rfl, s3.gh.sl (e3.g.sl (e2.g.sl hl)), fun a hp => ?_⟩
    exact p a _ G3 _ (e3.trans (Ext.newM e3.gh hp)) (e3.h.free hp) (e3.gh.free hp) upd_same (cutV_rp ((ha.mono e2.g).mono e3.g))
theorem ce_sliceT {e : Expr} {lo hi : Option Expr} {pos p2 : Pos} {m : M (Tup α)} {ml mh : M (Option Int)} (he : CE c e Γ L m) (hl : CO c lo Γ L ml) (hh : CO c hi Γ L mh) :
    CE c (.Subscript e (.Slice lo hi none p2) pos) Γ L (m.bind fun xs => ml.bind fun i => mh.bind fun j => .ok (Tup.mk (cutL xs.l i j))) := fun B G0 G H σ Q s p => by
  refine wpE_of (pe_slice sl_tupA pe_wp po_wp po_wp) ?_
  refine he.then (P := Pst c G H σ Q) s p (fun z => z) (fun e z => z) fun xs v G1 H1 p e1 s1 r1 => ?_
  refine hl.then (P := Pst c G1 H1 σ Q) s1 (p.ext e1) (fun z => z) (fun e z => z) fun i G2 H2 p e2 s2 => ?_
  refine hh.then (P := Pst c G2 H2 σ Q) s2 (Pst.ext e2 p) (fun z => z) (fun e z => z) fun j G3 H3 p e3 s3 => ?_
  have r1 : Rp c.K c.cA G1 v (.tup (encL xs.l)) := r1
  cases r1 with
  | tup hl ha =>
    have ha' := (ha.mono e2.g).mono e3.g
    refine ⟨_, _, rfl, s3.gh.st (e3.g.st (e2.g.st hl)), fun hw => ?_, fun _ a hp => ?_⟩
    · have hlen := ha.length
      unfold encL at hlen
      rw [List.length_map] at hlen
      have e : cutL xs.l i j = xs.l := by
        unfold cutL
        rw [hlen] at hw
        rw [hw.1, hw.2, List.drop_zero, Nat.sub_zero, List.take_length]
      rw [e] at p
      exact p _ G3 H3 e3 (.tup (e3.g.st (e2.g.st hl)) ha')
    · exact tup_new (m := .ok (Tup.mk (cutL xs.l i j))) s3.gh (cutV_rp ha') rfl (Pst.ext e3 p) a hp
theorem ce_sliceS {e : Expr} {lo hi : Option Expr} {pos p2 : Pos} {m : M Str} {ml mh : M (Option Int)} (he : CE c e Γ L m) (hl : CO c lo Γ L ml) (hh : CO c hi Γ L mh) :
    CE c (.Subscript e (.Slice lo hi none p2) pos) Γ L (m.bind fun z => ml.bind fun i => mh.bind fun j => need (decide (z.length ≤ sizeLine)) (.ok (cutS z i j))) := fun B G0 G H σ Q s p => by
  refine wpE_of (pe_slice sl_str pe_wp po_wp po_wp) ?_
  refine he.then (P := Pst c G H σ Q) s p (fun z => z) (fun e z => z) fun xs v G1 H1 p e1 s1 r1 => ?_
  refine hl.then (P := Pst c G1 H1 σ Q) s1 (p.ext e1) (fun z => z) (fun e z => z) fun i G2 H2 p e2 s2 => ?_
  refine hh.then (P := Pst c G2 H2 σ Q) s2 (Pst.ext e2 p) (fun z => z) (fun e z => z) fun j G3 H3 p e3 s3 => ?_
  obtain ⟨h, p⟩ := Pst.need p
  cases r1
  exact ⟨_, rfl, of_decide_eq_true h, p _ G3 H3 e3 (.str _)⟩

/-! ### built-ins by name -/
def BC1 (c : Cfg) (f : Value) (x : α) (m : M β) : Prop := ∀ (G H : Hp) (σ : L2.St) (v : V) (Q : VK), Sub G H → Rp c.K c.cA G v (enc x) → Pst c G H σ Q m → wpC c.X f [v] H Q
def BC2 (c : Cfg) (f : Value) (x : α) (y : β) (m : M γ) : Prop := ∀ (G H : Hp) (σ : L2.St) (v u : V) (Q : VK), Sub G H → Rp c.K c.cA G v (enc x) → Rp c.K c.cA G u (enc y) → Pst c G H σ Q m → wpC c.X f [v, u] H Q
def BN1 (c : Cfg) (f : Value) (x : α) (m : M (List β)) : Prop := ∀ (G H : Hp) (σ : L2.St) (v : V) (Q : VK), Sub G H → Rp c.K c.cA G v (enc x) → PstN c G H σ Q m → wpC c.X f [v] H Q
theorem ce_blt1 {x : Str} {id : String} {p pos : Pos} {a : Expr} {m : M α} {g : α → M β} (ho : ∀ x, BC1 c (.builtin id) x (g x)) (ha : CE c a Γ L m) (hg : Gl c.X x) (hm : c.X.mg x = none) (hv : bootBuiltins x = some (.builtin id)) (hn : x ≠ "__name__" := by decide) (hdb : (x == ("__debug__" : Str)) = false := by decide)
    (hs : starEach [a] c.X.env = (false, eval a c.X.env) :: starEach [] c.X.env := by rfl) : CE c (.Call (.Name x p) [a] [] pos) Γ L (m.bind g) := fun B G0 G H σ Q s p => by
  refine wpE_of (pe_callB call_wp hg hm hv (pa_cons pe_wp pa_nil hs) hn hdb hs) ?_
  refine ha.then (P := Pst c G H σ Q) s p (fun z => z) (fun e z => z) fun x v G1 H1 p e1 s1 r1 => ?_
  exact ho x G1 H1 σ v Q s1.gh r1 (p.ext e1)
theorem cn_blt1 {x : Str} {id : String} {p pos : Pos} {a : Expr} {m : M α} {g : α → M (List β)} (ho : ∀ x, BN1 c (.builtin id) x (g x)) (ha : CE c a Γ L m) (hg : Gl c.X x) (hm : c.X.mg x = none) (hv : bootBuiltins x = some (.builtin id)) (hn : x ≠ "__name__" := by decide) (hdb : (x == ("__debug__" : Str)) = false := by decide)
    (hs : starEach [a] c.X.env = (false, eval a c.X.env) :: starEach [] c.X.env := by rfl) : CN c (.Call (.Name x p) [a] [] pos) Γ L (m.bind g) := fun B G0 G H σ Q s p => by
  refine wpE_of (pe_callB call_wp hg hm hv (pa_cons pe_wp pa_nil hs) hn hdb hs) ?_
  refine ha.then (P := PstN c G H σ Q) s p (fun z => z) (fun e z => z) fun x v G1 H1 p e1 s1 r1 => ?_
  exact ho x G1 H1 σ v Q s1.gh r1 (p.ext e1)
theorem ce_ty1 {x : Str} {T : String} {p pos : Pos} {a : Expr} {m : M α} {g : α → M β} (ho : ∀ x, BC1 c (.type T) x (g x)) (ha : CE c a Γ L m) (hg : Gl c.X x) (hm : c.X.mg x = none) (hv : bootBuiltins x = some (.type T)) (hn : x ≠ "__name__" := by decide) (hdb : (x == ("__debug__" : Str)) = false := by decide)
    (hs : starEach [a] c.X.env = (false, eval a c.X.env) :: starEach [] c.X.env := by rfl) : CE c (.Call (.Name x p) [a] [] pos) Γ L (m.bind g) := fun B G0 G H σ Q s p => by
  refine wpE_of (pe_callTy call_wp hg hm hv (pa_cons pe_wp pa_nil hs) hn hdb hs) ?_
  refine ha.then (P := Pst c G H σ Q) s p (fun z => z) (fun e z => z) fun x v G1 H1 p e1 s1 r1 => ?_
  exact ho x G1 H1 σ v Q s1.gh r1 (p.ext e1)
theorem cn_ty1 {x : Str} {T : String} {p pos : Pos} {a : Expr} {m : M α} {g : α → M (List β)} (ho : ∀ x, BN1 c (.type T) x (g x)) (ha : CE c a Γ L m) (hg : Gl c.X x) (hm : c.X.mg x = none) (hv : bootBuiltins x = some (.type T)) (hn : x ≠ "__name__" := by decide) (hdb : (x == ("__debug__" : Str)) = false := by decide)
    (hs : starEach [a] c.X.env = (false, eval a c.X.env) :: starEach [] c.X.env := by rfl) : CN c (.Call (.Name x p) [a] [] pos) Γ L (m.bind g) := fun B G0 G H σ Q s p => by
  refine wpE_of (pe_callTy call_wp hg hm hv (pa_cons pe_wp pa_nil hs) hn hdb hs) ?_
  refine ha.then (P := PstN c G H σ Q) s p (fun z => z) (fun e z => z) fun x v G1 H1 p e1 s1 r1 => ?_
  exact ho x G1 H1 σ v Q s1.gh r1 (p.ext e1)
theorem ce_blt2 {x : Str} {id : String} {p pos : Pos} {a b : Expr} {ma : M α} {mb : M β} {g : α → β → M γ} (ho : ∀ x y, BC2 c (.builtin id) x y (g x y)) (ha : CE c a Γ L ma) (hb : CE c b Γ L mb) (hg : Gl c.X x) (hm : c.X.mg x = none) (hv : bootBuiltins x = some (.builtin id)) (hn : x ≠ "__name__" := by decide) (hdb : (x == ("__debug__" : Str)) = false := by decide)
    (hs : starEach [a, b] c.X.env = (false, eval a c.X.env) :: starEach [b] c.X.env := by rfl) (hs2 : starEach [b] c.X.env = (false, eval b c.X.env) :: starEach [] c.X.env := by rfl) (hpl : (backTo pos (starEach [b] c.X.env)).any (·.1) = false := by rfl) : CE c (.Call (.Name x p) [a, b] [] pos) Γ L (ma.bind fun x => mb.bind fun y => g x y) := fun B G0 G H σ Q s p => by
  refine wpE_of (pe_callB call_wp hg hm hv (pa_cons pe_wp (pa_cons pe_wp pa_nil hs2) hs) hn hdb hs hpl) ?_
  refine ha.then (P := Pst c G H σ Q) s p (fun z => z) (fun e z => z) fun x v G1 H1 p e1 s1 r1 => ?_
  refine hb.then (P := Pst c G1 H1 σ Q) s1 (p.ext e1) (fun z => z) (fun e z => z) fun y u G2 H2 p e2 s2 r2 => ?_
  exact ho x y G2 H2 σ v u Q s2.gh (r1.mono e2.g) r2 (Pst.ext e2 p)
theorem bc_abs {x : Int} : BC1 c (.builtin "abs") x (.ok (if x < 0 then -x else x)) := fun G H σ v Q s r p => by
  cases r; exact wpC_of call_abs ⟨x, rfl, p.val s (.int _)⟩
theorem bc_max2 {x y : Int} (hc : c.X.calm = true := by rfl) : BC2 c (.builtin "max") x y (.ok (if y > x then y else x)) := fun G H σ v u Q s r r' p => by
  cases r; cases r'; exact wpC_of (call_max2 hc) ⟨x, y, rfl, p.val s (.int _)⟩
theorem bc_min2 {x y : Int} (hc : c.X.calm = true := by rfl) : BC2 c (.builtin "min") x y (.ok (if y < x then y else x)) := fun G H σ v u Q s r r' p => by
  cases r; cases r'; exact wpC_of (call_min2 hc) ⟨x, y, rfl, p.val s (.int _)⟩
theorem bc_int {x : Int} : BC1 c (.type "int") x (.ok x) := fun G H σ v Q s r p => by
  cases r; exact wpC_of call_int1 (.inl ⟨x, rfl, p.val s (.int _)⟩)
theorem bc_intB {x : Bool} : BC1 c (.type "int") x (.ok (if x then (1 : Int) else 0)) := fun G H σ v Q s r p => by
  cases r; exact wpC_of call_int1 (.inr ⟨x, rfl, p.val s (.int _)⟩)
theorem bc_str {x : Int} : BC1 c (.type "str") x (need (decide (x.natAbs.log2 < 1920)) (.ok ((toString x : String) : Str))) := fun G H σ v Q s r p => by
  obtain ⟨h, p⟩ := p.need
  cases r; exact wpC_of call_str_int ⟨x, rfl, of_decide_eq_true h, p.val s (.str _)⟩
theorem rp_lst {K : PySem.W.Frag} {cA : Str → Addr} {G : Hp} {v : V} {xs : List α} (r : Rp K cA G v (enc xs)) : ∃ a vs, v = .ref a ∧ SqL K G a vs ∧ RpAll K cA G vs (encL xs) ∧ vs.length = xs.length := by
  have r : Rp K cA G v (.lst (encL xs)) := r
  cases r with
  | lst hl ha => exact ⟨_, _, rfl, hl, ha, by rw [ha.length]; unfold encL; rw [List.length_map]⟩
theorem rp_tup {K : PySem.W.Frag} {cA : Str → Addr} {G : Hp} {v : V} {xs : Tup α} (r : Rp K cA G v (enc xs)) : ∃ a vs, v = .ref a ∧ SqT K G a vs ∧ RpAll K cA G vs (encL xs.l) ∧ vs.length = xs.l.length := by
  have r : Rp K cA G v (.tup (encL xs.l)) := r
  cases r with
  | tup hl ha => exact ⟨_, _, rfl, hl, ha, by rw [ha.length]; unfold encL; rw [List.length_map]⟩
theorem bc_lenL {x : List α} : BC1 c (.builtin "len") x (.ok (x.length : Int)) := fun G H σ v Q s r p => by
  obtain ⟨a, vs, rfl, hl, ha, he⟩ := rp_lst r
  refine wpC_of call_len ⟨_, vs.length, rfl, .inl ⟨_, s.sl hl, rfl⟩, ?_⟩
  rw [he]; exact p.val s (.int _)
theorem bc_lenT {x : Tup α} : BC1 c (.builtin "len") x (.ok (x.l.length : Int)) := fun G H σ v Q s r p => by
  obtain ⟨a, vs, rfl, hl, ha, he⟩ := rp_tup r
  refine wpC_of call_len ⟨_, vs.length, rfl, .inr ⟨_, s.st hl, rfl⟩, ?_⟩
  rw [he]; exact p.val s (.int _)
theorem bc_lenS {x : Str} : BC1 c (.builtin "len") x (need (decide (x.length ≤ sizeLine)) (.ok (x.length : Int))) := fun G H σ v Q s r p => by
  obtain ⟨h, p⟩ := p.need
  cases r; exact wpC_of call_len ⟨_, _, rfl, ⟨of_decide_eq_true h, rfl⟩, p.val s (.int _)⟩
theorem rpAll_bls {K : PySem.W.Frag} {cA : Str → Addr} {G : Hp} : ∀ {vs : List V} {bs : List Bool}, RpAll K cA G vs (encL bs) → vs = bs.map V.bl
  | _, [], .nil => rfl
  | _, b :: bs, .cons r t => by
    have r : Rp K cA G _ (.bl b) := r
    cases r
    rw [rpAll_bls t, List.map_cons]
theorem rpAll_strs {K : PySem.W.Frag} {cA : Str → Addr} {G : Hp} : ∀ {vs : List V} {bs : List Str}, RpAll K cA G vs (encL bs) → vs = bs.map V.str
  | _, [], .nil => rfl
  | _, b :: bs, .cons r t => by
    have r : Rp K cA G _ (.str b) := r
    cases r
    rw [rpAll_strs t, List.map_cons]
theorem rpAll_ints {K : PySem.W.Frag} {cA : Str → Addr} {G : Hp} : ∀ {vs : List V} {bs : List Int}, RpAll K cA G vs (encL bs) → vs = bs.map V.int
  | _, [], .nil => rfl
  | _, b :: bs, .cons r t => by
    have r : Rp K cA G _ (.int b) := r
    cases r
    rw [rpAll_ints t, List.map_cons]
theorem bc_all {x : List Bool} (hc : c.X.calm = true := by rfl) : BC1 c (.builtin "all") x (.ok (x.all id)) := fun G H σ v Q s r p => by
  obtain ⟨a, vs, rfl, hl, ha, he⟩ := rp_lst r
  rw [rpAll_bls ha] at hl
  exact wpC_of (cr_all hc) ⟨a, x, rfl, s.sl hl, p.val s (.bl _)⟩
theorem bc_any {x : List Bool} (hc : c.X.calm = true := by rfl) : BC1 c (.builtin "any") x (.ok (x.any id)) := fun G H σ v Q s r p => by
  obtain ⟨a, vs, rfl, hl, ha, he⟩ := rp_lst r
  rw [rpAll_bls ha] at hl
  exact wpC_of (cr_any hc) ⟨a, x, rfl, s.sl hl, p.val s (.bl _)⟩
theorem PstN.new {G H : Hp} {σ : L2.St} {Q : VK} {xs : List α} {vs : List V} (p : PstN c G H σ Q (.ok xs)) (s : Sub G H) (r : RpAll c.K c.cA G vs (encL xs)) : ∀ a, H a = none → Q (.ref a) (upd H a (.lst vs)) :=
  fun a ha => p a vs G _ (Ext.newM s ha) ha (s.free ha) upd_same r
theorem bn_listL {x : List α} : BN1 c (.type "list") x (.ok x) := fun G H σ v Q s r p => by
  obtain ⟨a, vs, rfl, hl, ha, he⟩ := rp_lst r
  exact wpC_of call_list_of ⟨a, vs, rfl, .inl (s.sl hl), p.new s ha⟩
theorem bn_listT {x : Tup α} : BN1 c (.type "list") x (.ok x.l) := fun G H σ v Q s r p => by
  obtain ⟨a, vs, rfl, hl, ha, he⟩ := rp_tup r
  exact wpC_of call_list_of ⟨a, vs, rfl, .inr (s.st hl), p.new s ha⟩
theorem bc_tupleL {x : List α} : BC1 c (.type "tuple") x (.ok (Tup.mk x)) := fun G H σ v Q s r p => by
  obtain ⟨a, vs, rfl, hl, ha, he⟩ := rp_lst r
  exact wpC_of call_tuple_of ⟨a, vs, rfl, .inl ⟨s.sl hl, tup_new (m := .ok (Tup.mk x)) s ha rfl p⟩⟩
theorem bc_tupleT {x : Tup α} : BC1 c (.type "tuple") x (.ok x) := fun G H σ v Q s r p => by
  obtain ⟨a, vs, rfl, hl, ha, he⟩ := rp_tup r
  exact wpC_of call_tupleT ⟨a, vs, rfl, s.st hl, p.val s (.tup hl ha)⟩
/-! ### + of lists, of tuples -/
def catL (xs ys : List α) : M (List α) := need (decide (xs.length + ys.length ≤ sizeLine)) (.ok (xs ++ ys))
theorem lst_at {X : Cx} {pins : List (Addr × Obj)} {σ : L2.St} {H : Hp} {s : Shared} {a : Addr} {vs : List V} (I : Inv X pins σ H s) (h : SqL X.K H a vs) :
    ∃ (its : List Value) (n : Nat) (sl : Array (Option Value)), Vals vs its ∧ s.heap.get? a = some { cls := .type "list", dict := none, data := .seq its.toArray n, slots := sl } ∧ vs.length ≤ sizeLine := by
  obtain ⟨its, r, ⟨o, n, e, c, d, q⟩, hz⟩ := I.list h
  obtain ⟨cls, dd, data, sl⟩ := o
  simp only at c d q
  subst c d q
  exact ⟨its, n, sl, r, e, hz⟩
theorem cn_cat {a b : Expr} {pos : Pos} {ma mb : M (List α)} (ha : CE c a Γ L ma) (hb : CE c b Γ L mb) : CN c (.BinOp a .Add b pos) Γ L (ma.bind fun x => mb.bind fun y => catL x y) := fun B G0 G H σ Q s p => by
  refine wpE_of (pe_op op_wp pe_wp pe_wp) ?_
  refine ha.then (P := PstN c G H σ Q) s p (fun z => z) (fun e z => z) fun x v G1 H1 p e1 s1 r1 => ?_
  refine hb.then (P := PstN c G1 H1 σ Q) s1 (p.ext e1) (fun z => z) (fun e z => z) fun y u G2 H2 p e2 s2 r2 => ?_
  have p := PstN.ext e2 p
  obtain ⟨hz, p⟩ := p.need
  obtain ⟨a, vs, rfl, hl, ha, he⟩ := rp_lst r1
  obtain ⟨b, us, rfl, hl', ha', he'⟩ := rp_lst r2
  intro pins sh σ' v' u' I rx ry
  cases rx
  cases ry
  obtain ⟨its, n, sl, rv, e, _⟩ := lst_at I (s2.gh.sl (e2.g.sl hl))
  obtain ⟨its2, n2, sl2, rv2, ee2, _⟩ := lst_at I (s2.gh.sl hl')
  have h1 := rv.length
  have h2 := rv2.length
  have hz := of_decide_eq_true hz
  refine concat_meets ⟨_, e, rfl⟩ ⟨_, ee2, rfl⟩ noFill_list_add seq_list_add PySem.F.slot_list_add PySem.F.entry_list_add (PySem.F.args_list_add_2 _ _) (PyProof.Rows.list_addW _ _ _ _ n n2 _ _ sl sl2 (by rw [List.size_toArray, List.size_toArray]; omega)) ⟨e, ee2, ?_⟩
  have ea : its.toArray ++ its2.toArray = (its ++ its2).toArray := by simp
  rw [ea]
  refine ⟨.ref _, _, I.lnew (t' := sh.toks) (rv.append rv2) (by rw [List.length_append]; omega), rfl, ?_⟩
  refine p.new s2.gh ?_ _ I.fresh
  unfold encL
  rw [List.map_append]
  exact (ha.mono e2.g).append ha'
def catT (xs ys : Tup α) : M (Tup α) := need (decide (xs.l.length + ys.l.length ≤ sizeLine)) (.ok ⟨xs.l ++ ys.l⟩)
theorem bop_catT {x y : Tup α} : BOp c (binaryOp .Add) x y (catT x y) := fun G H σ v u Q s r r' p => by
  obtain ⟨hz, p⟩ := p.need
  have hz := of_decide_eq_true hz
  obtain ⟨a, vs, rfl, hl, ha, he⟩ := rp_tup r
  obtain ⟨b, us, rfl, hl', ha', he'⟩ := rp_tup r'
  refine wpO_of op_catA ⟨a, b, vs, us, rfl, rfl, s.st hl, s.st hl', by rw [he, he']; exact hz, fun e => ?_, fun _ e => ?_, fun _ _ => ?_⟩
  · subst e
    have hx : x.l = [] := List.eq_nil_of_length_eq_zero (by rw [← he]; rfl)
    rw [hx, List.nil_append] at p
    exact p.val s (.tup hl' ha')
  · subst e
    have hx : y.l = [] := List.eq_nil_of_length_eq_zero (by rw [← he']; rfl)
    rw [hx, List.append_nil] at p
    exact p.val s (.tup hl ha)
  · refine tup_new (m := catT x y) s ?_ rfl p
    unfold encL
    rw [List.map_append]
    exact ha.append ha'

/-! ### methods of built-in types -/
def wpM (X : Cx) (id : String) : V → List V → Hp → VK → Prop := fun x xs H Q => ∀ (pins : List (Addr × Obj)) (s : Shared) (σ : L2.St) (v : Value) (us : List Value), Inv X pins σ H s → RelV x v → Vals xs us →
    wpAny (model X.prog X.w) X.A (call (.builtin id) (v :: us)) (EP X pins σ Q) X.xe s
theorem mt_wp {X : Cx} {id : String} : MtR X id (wpM X id) := fun pins s σ H x xs v us Q I r rs h => h pins s σ v us I r rs
theorem wpM_of {X : Cx} {id : String} {r : V → List V → Hp → VK → Prop} (h : MtR X id r) {x : V} {xs : List V} {H : Hp} {Q : VK} (q : r x xs H Q) : wpM X id x xs H Q := fun pins s σ v us I a b => h pins s σ H x xs v us Q I a b q
/-- texts -/
def MS1 (c : Cfg) (id : String) (x : Str) (y : β) (m : M γ) : Prop := ∀ (G H : Hp) (σ : L2.St) (u : V) (Q : VK), Sub G H → Rp c.K c.cA G u (enc y) → Pst c G H σ Q m → wpM c.X id (.str x) [u] H Q
theorem ce_ms1 {o e : Expr} {name : Str} {id : String} {ap cp : Pos} {mo : M Str} {me : M β} {g : Str → β → M γ} (slot : Slot "str" name id) (ty : typeOf (.builtin id) = pure (.type "method_descriptor")) (hr : ∀ x y, MS1 c id x y (g x y)) (ho : CE c o Γ L mo) (he : CE c e Γ L me)
    (hs : starEach [e] c.X.env = [(false, eval e c.X.env)] := by rfl) (hbase : attributeBase o name c.X.env (eval o c.X.env) = eval o c.X.env := by rfl) (hline : (ap.endLine == cp.line) = true := by rfl) :
    CE c (.Call (.Attribute o name ap) [e] [] cp) Γ L (mo.bind fun x => me.bind fun y => g x y) := fun B G0 G H σ Q s p => by
  refine wpE_of (pe_m1 slot ty mt_wp pe_wp pe_wp hs hbase hline) ?_
  refine ho.then (P := Pst c G H σ Q) s p (fun z => z) (fun e z => z) fun x v G1 H1 p e1 s1 r1 => ?_
  cases r1
  refine ⟨⟨_, rfl⟩, ?_⟩
  refine he.then (P := Pst c G1 H1 σ Q) s1 (p.ext e1) (fun z => z) (fun e z => z) fun y u G2 H2 p e2 s2 r2 => ?_
  exact hr x y G2 H2 σ u Q s2.gh r2 (Pst.ext e2 p)
theorem cn_ms1 {o e : Expr} {name : Str} {id : String} {ap cp : Pos} {mo : M Str} {me : M β} {g : Str → β → M (List γ)} (slot : Slot "str" name id) (ty : typeOf (.builtin id) = pure (.type "method_descriptor"))
    (hr : ∀ x y (G H : Hp) (σ : L2.St) (u : V) (Q : VK), Sub G H → Rp c.K c.cA G u (enc y) → PstN c G H σ Q (g x y) → wpM c.X id (.str x) [u] H Q) (ho : CE c o Γ L mo) (he : CE c e Γ L me)
    (hs : starEach [e] c.X.env = [(false, eval e c.X.env)] := by rfl) (hbase : attributeBase o name c.X.env (eval o c.X.env) = eval o c.X.env := by rfl) (hline : (ap.endLine == cp.line) = true := by rfl) :
    CN c (.Call (.Attribute o name ap) [e] [] cp) Γ L (mo.bind fun x => me.bind fun y => g x y) := fun B G0 G H σ Q s p => by
  refine wpE_of (pe_m1 slot ty mt_wp pe_wp pe_wp hs hbase hline) ?_
  refine ho.then (P := PstN c G H σ Q) s p (fun z => z) (fun e z => z) fun x v G1 H1 p e1 s1 r1 => ?_
  cases r1
  refine ⟨⟨_, rfl⟩, ?_⟩
  refine he.then (P := PstN c G1 H1 σ Q) s1 (p.ext e1) (fun z => z) (fun e z => z) fun y u G2 H2 p e2 s2 r2 => ?_
  exact hr x y G2 H2 σ u Q s2.gh r2 (PstN.ext e2 p)
def joinS (x : Str) (ys : List Str) : M Str := need (decide ((ys.map (·.length)).sum + ys.length * x.length ≤ 16777216)) (.ok (Txt.join x ys))
theorem ms_join {x : Str} {ys : List Str} : MS1 c "str.join" x ys (joinS x ys) := fun G H σ u Q s r p => by
  obtain ⟨h, p⟩ := p.need
  obtain ⟨a, vs, rfl, hl, ha, he⟩ := rp_lst r
  rw [rpAll_strs ha] at hl
  exact wpM_of mt_join ⟨x, a, ys, rfl, rfl, .inl (s.sl hl), of_decide_eq_true h, p.val s (.str _)⟩
def splitS (x y : Str) : M (List Str) := need (!(y.length == 0) && decide (x.length + 2 ≤ sizeLine)) (.ok (Txt.split x y))
theorem strs_rp {K : PySem.W.Frag} {cA : Str → Addr} {G : Hp} : ∀ ys : List Str, RpAll K cA G (ys.map V.str) (encL ys)
  | [] => .nil
  | y :: ys => .cons (.str y) (strs_rp ys)
theorem ms_split {x y : Str} : ∀ (G H : Hp) (σ : L2.St) (u : V) (Q : VK), Sub G H → Rp c.K c.cA G u (enc y) → PstN c G H σ Q (splitS x y) → wpM c.X "str.split" (.str x) [u] H Q := fun G H σ u Q s r p => by
  obtain ⟨h, p⟩ := p.need
  rw [Bool.and_eq_true] at h
  cases r
  exact wpM_of mt_split ⟨x, y, rfl, rfl, by simpa using h.1, of_decide_eq_true h.2, fun a ha => p.new s (strs_rp _) a ha⟩
theorem ms_find {x y : Str} : MS1 c "str.find" x y (.ok (Txt.find x y)) := fun G H σ u Q s r p => by
  cases r
  exact wpM_of mt_find ⟨x, y, rfl, rfl, p.val s (.int _)⟩

/-! ### a mutable list: append, extend, pop, insert, a store -/
theorem Stt.writeAt {K : PySem.W.Frag} {cA : Str → Addr} {B G0 G H : Hp} {σ : L2.St} (s : Stt K cA B G0 G H σ Γ L) {p : Addr} {o : HO} {ce ce' : Cell} {j : Nat} (hp : L[j]? = some (p, ce)) (q : CellOk K cA G (upd H p o) p ce') :
    Stt K cA B G0 G (upd H p o) σ Γ (L.set j (p, ce')) := by
  have hj : j < L.length := (List.getElem?_eq_some_iff.mp hp).1
  have hpe : L[j] = (p, ce) := (List.getElem?_eq_some_iff.mp hp).2
  have mem : (p, ce) ∈ L := by rw [← hpe]; exact List.getElem_mem hj
  have keys : (L.set j (p, ce')).map (·.1) = L.map (·.1) := by
    rw [List.map_set]
    refine List.ext_getElem? fun i => ?_
    by_cases h : j = i
    · subst h
      rw [List.getElem?_set_self (by rw [List.length_map]; exact hj), List.getElem?_map, hp]
      rfl
    · rw [List.getElem?_set_ne h]
  obtain ⟨hg, hb, _⟩ := s.cell p ce mem
  exact { s with
    gh := fun a u e => by rw [upd_ne (ne_of_none e hg)]; exact s.gh a u e
    bh := fun a u e => by rw [upd_ne (ne_of_none e hb)]; exact s.bh a u e
    nd := by rw [keys]; exact s.nd
    cell := fun p' d' h' => by
      obtain ⟨i, hi⟩ := List.mem_iff_getElem?.mp h'
      by_cases h : j = i
      · subst h
        rw [List.getElem?_set_self hj] at hi
        cases hi
        exact ⟨hg, hb, q⟩
      · rw [List.getElem?_set_ne h] at hi
        obtain ⟨a, b, r⟩ := s.cell p' d' (List.mem_iff_getElem?.mpr ⟨i, hi⟩)
        have ne : p' ≠ p := fun z => by
          subst z
          have h1 : (L.map (·.1))[i]? = some p' := by rw [List.getElem?_map, hi]; rfl
          have h2 : (L.map (·.1))[j]? = some p' := by rw [List.getElem?_map, hp]; rfl
          exact h (nd_ix s.nd h2 h1)
        exact ⟨a, b, r.mono (Sub.refl G) (upd_ne ne)⟩ }
/-- x.name(e), x a mutable list; what it hands back is dropped -/
theorem cs_meth {i j : Nat} {x name : Str} {id : String} {e : Expr} {p1 p2 p3 p4 : Pos} {a : Addr} {xs : List α} {m : M β} {k : β → M O} (pa : PlainAttrs "list") (slot : Slot "list" name id) (hty : typeOf (.builtin id) = pure (.type "method_descriptor"))
    (hi : Γ[i]? = some (some (.own a))) (hj : L[j]? = some (a, .lst (encL xs))) (he : CE c e Γ L m) (g : β → List α) (ok : β → Bool)
    (rule : ∀ (y : β) (G H : Hp) (vs : List V) (v : V) (Q : VK), ok y = true → Sub G H → G a = none → H a = some (.lst vs) → RpAll c.K c.cA G vs (encL xs) → Rp c.K c.cA G v (enc y) → (∀ v' ws, RpAll c.K c.cA G ws (encL (g y)) → Q v' (upd H a (.lst ws))) → wpM c.X id (.ref a) [v] H Q)
    (hr : ∀ y, CS c xf xl rest Γ (L.set j (a, .lst (encL (g y)))) κ (k y)) (hN : c.X.N[i]? = some x := by rfl) (hv : Vis c.X.env.scope x := by first | exact Or.inl rfl | exact Or.inr (Or.inl rfl) | exact Or.inr (Or.inr rfl))
    (hd : (x == ("__debug__" : Str)) = false := by decide) (hcd : (x == ("__classdict__" : Str)) = false := by decide) (hst : starEach [e] c.X.env = (false, eval e c.X.env) :: starEach [] c.X.env := by rfl)
    (hbase : attributeBase (.Name x p1) name c.X.env (eval (.Name x p1) c.X.env) = eval (.Name x p1) c.X.env := by rfl) (hs : swapsWith (.Call (.Attribute (.Name x p1) name p2) [e] [] p3) none p4.line c.X.env = pure false := by rfl)
    (hfew : ((backTo p3 (starEach [e] c.X.env)).all (fun x => !x.1) && (backToKw p3 (keywordEach [] c.X.env)).all (fun x => x.1.isSome) && decide ([e].length + ([] : List Keyword).length + (if ([] : List Keyword).isEmpty then 0 else 1) < 30)) = true := by rfl)
    (hline : (p2.endLine == p3.line) = true := by rfl) (hx : Wk Γ L xf xl := by exact wk_no rfl) :
    CS c xf xl (.Expr (.Call (.Attribute (.Name x p1) name p2) [e] [] p3) p4 :: rest) Γ L κ (m.bind fun y => need (ok y) (k y)) := fun B G0 G H σ D s p => by
  refine wpSs_of (pss_cons (ps_expr (pe_bm pa slot hty mt_wp (pe_var hN hv hd hcd) (pa_cons pe_wp pa_nil hst) hbase hfew hline hst) hs) pss_wp) ?_
  obtain ⟨v0, hσ, r0⟩ := s.slot i _ hi
  cases r0
  have mem : (a, Cell.lst (encL xs)) ∈ L := List.mem_iff_getElem?.mpr ⟨j, hj⟩
  obtain ⟨_, _, vs0, hv0, _⟩ := s.cell a _ mem
  refine ⟨.ref a, hσ, .inl ⟨rfl, vs0, .inl (.inl hv0)⟩, ?_⟩
  refine he.then (P := PstS c B G0 xf xl D κ) s p (fun z => z) (fun e z => z.raise s hx) fun y v G1 H1 p e1 s1 r1 => ?_
  have hok : ok y = true := by
    cases h : ok y with
    | true => rfl
    | false => rw [h] at p; exact p.elim
  rw [M.need_true _ hok] at p
  obtain ⟨ga, ba, vs, hvs, rvs⟩ := s1.cell a _ mem
  refine rule y G1 H1 vs v _ hok s1.gh ga hvs rvs r1 fun v' ws rw' => ?_
  exact hr y B G0 G1 _ σ D (s1.writeAt hj ⟨ws, upd_same, rw'⟩) p
theorem cs_append {i j : Nat} {x : Str} {e : Expr} {p1 p2 p3 p4 : Pos} {a : Addr} {xs : List α} {m : M α} {k : α → M O}
    (hi : Γ[i]? = some (some (.own a))) (hj : L[j]? = some (a, .lst (encL xs))) (he : CE c e Γ L m)
    (hr : ∀ y, CS c xf xl rest Γ (L.set j (a, .lst (encL (xs ++ [y])))) κ (k y)) (hN : c.X.N[i]? = some x := by rfl) (hv : Vis c.X.env.scope x := by first | exact Or.inl rfl | exact Or.inr (Or.inl rfl) | exact Or.inr (Or.inr rfl))
    (hd : (x == ("__debug__" : Str)) = false := by decide) (hcd : (x == ("__classdict__" : Str)) = false := by decide) (hst : starEach [e] c.X.env = (false, eval e c.X.env) :: starEach [] c.X.env := by rfl)
    (hbase : attributeBase (.Name x p1) "append" c.X.env (eval (.Name x p1) c.X.env) = eval (.Name x p1) c.X.env := by rfl) (hs : swapsWith (.Call (.Attribute (.Name x p1) "append" p2) [e] [] p3) none p4.line c.X.env = pure false := by rfl)
    (hfew : ((backTo p3 (starEach [e] c.X.env)).all (fun x => !x.1) && (backToKw p3 (keywordEach [] c.X.env)).all (fun x => x.1.isSome) && decide ([e].length + ([] : List Keyword).length + (if ([] : List Keyword).isEmpty then 0 else 1) < 30)) = true := by rfl)
    (hline : (p2.endLine == p3.line) = true := by rfl) (hx : Wk Γ L xf xl := by exact wk_no rfl) :
    CS c xf xl (.Expr (.Call (.Attribute (.Name x p1) "append" p2) [e] [] p3) p4 :: rest) Γ L κ (m.bind fun y => need (decide (xs.length < sizeLine)) (k y)) :=
  cs_meth PySem.F.plainAttrs_list PySem.F.slot_list_append PySem.F.type_list_append hi hj he (fun y => xs ++ [y]) (fun _ => decide (xs.length < sizeLine)) (fun y G H vs v Q ok sg ga ha r r1 q => by
    have hl : vs.length = xs.length := by rw [r.length]; unfold encL; rw [List.length_map]
    refine wpM_of mt_append ⟨a, vs, v, rfl, rfl, ha, by rw [hl]; exact of_decide_eq_true ok, q _ _ ?_⟩
    unfold encL
    rw [List.map_append]
    exact r.snoc r1) hr hN hv hd hcd hst hbase hs hfew hline hx
/-- a mutable list is mutable no longer -/
theorem Stt.frzAt {K : PySem.W.Frag} {cA : Str → Addr} {B G0 G H : Hp} {σ : L2.St} {p : Addr} {ds : List D} {j : Nat} (s : Stt K cA B G0 G H σ Γ L) (hj : L[j]? = some (p, .lst ds)) : ∃ G', Stt K cA B G0 G' H σ Γ (L.eraseIdx j) ∧ Sub G G' ∧ Rp K cA G' (.ref p) (.lst ds) := by
  have mem : (p, Cell.lst ds) ∈ L := List.mem_iff_getElem?.mpr ⟨j, hj⟩
  obtain ⟨hg, hb, vs, hv, r⟩ := s.cell p _ mem
  have hs : Sub G (upd G p (.lst vs)) := Sub.upd hg
  refine ⟨upd G p (.lst vs), { s with
    gh := fun a u e => ?_, g0 := s.g0.trans hs, bg := fun a h => ?_, slot := fun i d h => ?_, nd := List.Nodup.sublist ((List.eraseIdx_sublist L j).map _) s.nd, cell := fun q c h => ?_ }, hs, .lst (.inl (.inl upd_same)) (r.mono hs)⟩
  · by_cases z : a = p
    · subst z; rw [upd_same] at e; rw [hv]; exact e
    · rw [upd_ne z] at e; exact s.gh a u e
  · rw [upd_ne (fun z => h (by rw [z]; exact hb))]; exact s.bg a h
  · obtain ⟨v, a, q⟩ := s.slot i d h
    exact ⟨v, a, q.mono hs⟩
  · obtain ⟨a, b, q'⟩ := s.cell q c ((List.eraseIdx_sublist L j).subset h)
    have ne : q ≠ p := fun z => by
      subst z
      obtain ⟨i, hi⟩ := List.mem_iff_getElem?.mp h
      rw [List.getElem?_eraseIdx] at hi
      have h2 : (L.map (·.1))[j]? = some q := by rw [List.getElem?_map, hj]; rfl
      split at hi
      · rename_i hlt
        have h1 : (L.map (·.1))[i]? = some q := by rw [List.getElem?_map, hi]; rfl
        have := nd_ix s.nd h1 h2
        omega
      · rename_i hlt
        have h1 : (L.map (·.1))[i + 1]? = some q := by rw [List.getElem?_map, hi]; rfl
        have := nd_ix s.nd h1 h2
        omega
    exact ⟨by rw [upd_ne ne]; exact a, b, q'.mono hs rfl⟩
theorem set_get_self {σ : L2.St} {i : Nat} {v : V} (hσ : σ[i]? = some (some v)) : σ.set i (some v) = σ := by
  refine List.ext_getElem? fun k => ?_
  by_cases h : i = k
  · subst h
    rw [List.getElem?_set_self (List.getElem?_eq_some_iff.mp hσ).1, hσ]
  · rw [List.getElem?_set_ne h]
theorem cs_frz {i j : Nat} {sts : List Stmt} {a : Addr} {xs : List α} {m : M O} (hi : Γ[i]? = some (some (.own a))) (hj : L[j]? = some (a, .lst (encL xs))) (hr : CS c xf xl sts (Γ.set i (some (enc xs))) (L.eraseIdx j) κ m) : CS c xf xl sts Γ L κ m := fun B G0 G H σ D s p => by
  obtain ⟨v, hσ, r⟩ := s.slot i _ hi
  cases r
  obtain ⟨G', s', sg, r'⟩ := s.frzAt hj
  have s1 := s'.set (i := i) r'
  rw [set_get_self hσ] at s1
  exact hr B G0 G' H σ D s1 p
/-! ### a mutable list is read -/
section
variable {i j : Nat} {x : Str} {pos p1 p2 : Pos} {a : Addr} {xs : List α}
theorem ce_lenO (hi : Γ[i]? = some (some (.own a))) (hj : L[j]? = some (a, .lst (encL xs))) (hg : Gl c.X "len") (hm : c.X.mg "len" = none) (hN : c.X.N[i]? = some x := by rfl) (hv : Vis c.X.env.scope x := by first | exact Or.inl rfl | exact Or.inr (Or.inl rfl) | exact Or.inr (Or.inr rfl))
    (hd : (x == ("__debug__" : Str)) = false := by decide) (hcd : (x == ("__classdict__" : Str)) = false := by decide) (hs : starEach [.Name x p1] c.X.env = (false, eval (.Name x p1) c.X.env) :: starEach [] c.X.env := by rfl) :
    CE c (.Call (.Name "len" p2) [.Name x p1] [] pos) Γ L (.ok (xs.length : Int)) := fun B G0 G H σ Q s p => by
  obtain ⟨v, hσ, r⟩ := s.slot i _ hi
  cases r
  obtain ⟨_, _, vs, hvs, rv⟩ := s.cell a _ (List.mem_iff_getElem?.mpr ⟨j, hj⟩)
  refine wpE_of (pe_callB call_len hg hm PySem.boot_len (pa_cons (pe_var hN hv hd hcd) pa_nil hs) (by decide) (by decide) hs) ⟨_, hσ, _, vs.length, rfl, .inl ⟨vs, .inl (.inl hvs), rfl⟩, ?_⟩
  rw [rv.length, show (encL xs).length = xs.length by unfold encL; rw [List.length_map]]
  exact p _ G H (Ext.refl s.gh) (.int _)
theorem ce_idxO {e : Expr} {m : M Int} (hi : Γ[i]? = some (some (.own a))) (hj : L[j]? = some (a, .lst (encL xs))) (he : CE c e Γ L m) (hN : c.X.N[i]? = some x := by rfl) (hv : Vis c.X.env.scope x := by first | exact Or.inl rfl | exact Or.inr (Or.inl rfl) | exact Or.inr (Or.inr rfl))
    (hd : (x == ("__debug__" : Str)) = false := by decide) (hcd : (x == ("__classdict__" : Str)) = false := by decide) (hs : PlainIx e := by exact fun _ _ => rfl) : CE c (.Subscript (.Name x p1) e pos) Γ L (m.bind fun k => idx xs k) := fun B G0 G H σ Q s p => by
  obtain ⟨v, hσ, r⟩ := s.slot i _ hi
  cases r
  refine wpE_of (pe_ix ix_list (pe_var hN hv hd hcd) pe_wp hs) ⟨_, hσ, ?_⟩
  refine he.then (P := Pst c G H σ Q) s p (fun z => z) (fun e z => z) fun k v G1 H1 p e1 s1 r1 => ?_
  cases r1
  obtain ⟨_, _, vs, hvs, rv⟩ := s1.cell a _ (List.mem_iff_getElem?.mpr ⟨j, hj⟩)
  obtain ⟨y, hy, p⟩ := Pst.some! p
  obtain ⟨w', hw, rw'⟩ := atI_rp rv (atI_enc hy)
  exact ⟨_, vs, k, w', rfl, rfl, .inl (.inl hvs), hw, p w' G1 H1 e1 rw'⟩
theorem ct_truO (hi : Γ[i]? = some (some (.own a))) (hj : L[j]? = some (a, .lst (encL xs))) (hN : c.X.N[i]? = some x := by rfl) (hv : Vis c.X.env.scope x := by first | exact Or.inl rfl | exact Or.inr (Or.inl rfl) | exact Or.inr (Or.inr rfl))
    (hd : (x == ("__debug__" : Str)) = false := by decide) (hcd : (x == ("__classdict__" : Str)) = false := by decide) : CT c (.Name x p1) Γ L (.ok (!xs.isEmpty)) := fun B G0 G H σ Q s p => by
  obtain ⟨v, hσ, r⟩ := s.slot i _ hi
  cases r
  obtain ⟨_, _, vs, hvs, rv⟩ := s.cell a _ (List.mem_iff_getElem?.mpr ⟨j, hj⟩)
  refine wpT_of (pt_truth (pe_var hN hv hd hcd) (by intro _; rfl)) ⟨_, hσ, _, .inl ⟨vs, .inl (.inl hvs), rfl⟩, ?_⟩
  have e : vs.isEmpty = xs.isEmpty := by
    have := rv.length
    unfold encL at this
    rw [List.length_map] at this
    cases vs <;> cases xs <;> simp_all
  rw [e]
  exact p G H (Ext.refl s.gh)
theorem cn_sliceO {lo hi : Option Expr} {ml mh : M (Option Int)} (h1 : Γ[i]? = some (some (.own a))) (hj : L[j]? = some (a, .lst (encL xs))) (hl : CO c lo Γ L ml) (hh : CO c hi Γ L mh) (hN : c.X.N[i]? = some x := by rfl) (hv : Vis c.X.env.scope x := by first | exact Or.inl rfl | exact Or.inr (Or.inl rfl) | exact Or.inr (Or.inr rfl))
    (hd : (x == ("__debug__" : Str)) = false := by decide) (hcd : (x == ("__classdict__" : Str)) = false := by decide) :
    CN c (.Subscript (.Name x p1) (.Slice lo hi none p2) pos) Γ L (ml.bind fun i => mh.bind fun j => .ok (cutL xs i j)) := fun B G0 G H σ Q s p => by
  obtain ⟨v, hσ, r⟩ := s.slot i _ h1
  cases r
  refine wpE_of (pe_slice sl_list (pe_var hN hv hd hcd) po_wp po_wp) ⟨_, hσ, ?_⟩
  refine hl.then (P := PstN c G H σ Q) s p (fun z => z) (fun e z => z) fun i G2 H2 p e2 s2 => ?_
  refine hh.then (P := PstN c G2 H2 σ Q) s2 (p.ext e2) (fun z => z) (fun e z => z) fun j' G3 H3 p e3 s3 => ?_
  obtain ⟨_, _, vs, hvs, rv⟩ := s3.cell a _ (List.mem_iff_getElem?.mpr ⟨j, hj⟩)
  refine ⟨_, vs, rfl, .inl (.inl hvs), fun a hp => ?_⟩
  exact p a _ G3 _ (e3.trans (Ext.newM e3.gh hp)) (e3.h.free hp) (e3.gh.free hp) upd_same (cutV_rp rv)
end
/-! ### x[k] = e -/
theorem cs_store {i j : Nat} {x : Str} {e ek : Expr} {p1 p2 p3 : Pos} {a : Addr} {xs : List α} {m : M α} {mk : M Int} {k : List α → M O} (hi : Γ[i]? = some (some (.own a))) (hj : L[j]? = some (a, .lst (encL xs))) (he : CE c e Γ L m) (hk : CE c ek Γ L mk)
    (hr : ∀ ys, CS c xf xl rest Γ (L.set j (a, .lst (encL ys))) κ (k ys)) (hN : c.X.N[i]? = some x := by rfl) (hv : Vis c.X.env.scope x := by first | exact Or.inl rfl | exact Or.inr (Or.inl rfl) | exact Or.inr (Or.inr rfl))
    (hd : (x == ("__debug__" : Str)) = false := by decide) (hcd : (x == ("__classdict__" : Str)) = false := by decide)
    (ha : ∀ v, assign (.Subscript (.Name x p1) ek p2) c.X.env v = (do
      let ov ← holding [v] (eval (.Name x p1) c.X.env)
      let iv ← holding [v, ov] (eval ek c.X.env)
      standAt p2
      holding [v, ov, iv] (setItem ov iv v)
      release [v, ov, iv] []) := by intro _; rfl)
    (hs : swapsWithSole [.Subscript (.Name x p1) ek p2] e p3.line c.X.env = pure false := by rfl) (hw : swappedStores [.Subscript (.Name x p1) ek p2] e c.X.env = pure none := by rfl) (hx : Wk Γ L xf xl := by exact wk_no rfl) :
    CS c xf xl (.Assign [.Subscript (.Name x p1) ek p2] e p3 :: rest) Γ L κ (m.bind fun y => mk.bind fun n => (some! (ixN xs.length n)).bind fun q => k (xs.set q y)) := fun B G0 G H σ D s p => by
  refine wpSs_of (pss_cons (ps_asg pe_wp (pg_sub (pe_var hN hv hd hcd) pe_wp set_list ha) hs hw) pss_wp) ?_
  refine he.then (P := PstS c B G0 xf xl D κ) s p (fun z => z) (fun e z => z.raise s hx) fun y v G1 H1 p e1 s1 r1 => ?_
  obtain ⟨v0, hσ, r0⟩ := s1.slot i _ hi
  cases r0
  refine ⟨_, hσ, ?_⟩
  refine hk.then (P := PstS c B G0 xf xl D κ) s1 p (fun z => z) (fun e z => z.raise s1 hx) fun n u G2 H2 p e2 s2 r2 => ?_
  cases r2
  cases hq : ixN xs.length n with
  | none => rw [hq] at p; exact p.elim
  | some q =>
    rw [hq] at p
    obtain ⟨_, _, vs, hvs, rv⟩ := s2.cell a _ (List.mem_iff_getElem?.mpr ⟨j, hj⟩)
    have hlen : vs.length = xs.length := by rw [rv.length]; unfold encL; rw [List.length_map]
    refine ⟨a, vs, n, q, rfl, rfl, hvs, by rw [hlen]; exact hq, ?_⟩
    refine hr (xs.set q y) B G0 G2 _ σ D (s2.writeAt hj ⟨vs.set q v, upd_same, ?_⟩) p
    unfold encL
    rw [List.map_set]
    exact rv.set q (r1.mono e2.g)
end
end Pf

/-! P9: comprehensions; short forms. -/
namespace Pf
open PySem PySem.Spec L2
open PyProof.Rows hiding St
open M (need some!)

/-- a comprehension's list: with a test, without -/
def compM {α β : Type} (t : α → M Bool) (f : α → M β) : List α → M (List β)
  | [] => .ok []
  | x :: xs => (t x).nr.bind fun b => if b = true then (f x).nr.bind fun y => (compM t f xs).bind fun ys => .ok (y :: ys) else compM t f xs
def mapM {α β : Type} (f : α → M β) : List α → M (List β)
  | [] => .ok []
  | x :: xs => (f x).nr.bind fun y => (mapM f xs).bind fun ys => .ok (y :: ys)
theorem mapM_ok {α β : Type} (f : α → β) : ∀ xs : List α, mapM (fun x => .ok (f x)) xs = .ok (xs.map f)
  | [] => rfl
  | x :: xs => by
    unfold mapM
    rw [mapM_ok f xs]
    rfl
theorem mapM_eq {α β : Type} {f : α → M β} {g : α → β} : ∀ {xs : List α}, (∀ x ∈ xs, f x = .ok (g x)) → mapM f xs = .ok (xs.map g)
  | [], _ => rfl
  | x :: xs, h => by
    unfold mapM
    rw [h x List.mem_cons_self, mapM_eq fun y hy => h y (List.mem_cons_of_mem _ hy)]
    rfl
theorem compM_eq {α β : Type} {t : α → M Bool} {f : α → M β} {p : α → Bool} {g : α → β} : ∀ {xs : List α}, (∀ x ∈ xs, t x = .ok (p x)) → (∀ x ∈ xs, p x = true → f x = .ok (g x)) → compM t f xs = .ok ((xs.filter p).map g)
  | [], _, _ => rfl
  | x :: xs, h, h2 => by
    unfold compM
    rw [h x List.mem_cons_self, compM_eq (fun y hy => h y (List.mem_cons_of_mem _ hy)) fun y hy => h2 y (List.mem_cons_of_mem _ hy)]
    show (if p x = true then _ else _) = _
    by_cases hp : p x = true
    · rw [if_pos hp, h2 x List.mem_cons_self hp, List.filter_cons_of_pos hp]
      rfl
    · rw [if_neg hp, List.filter_cons_of_neg hp]
theorem compM_true {α β : Type} (f : α → M β) : ∀ xs : List α, compM (fun _ => .ok true) f xs = mapM f xs
  | [] => rfl
  | x :: xs => by
    unfold compM mapM
    rw [compM_true f xs]
    rfl
theorem compM_cons {α β : Type} (t : α → M Bool) (f : α → M β) (x : α) (xs : List α) :
    compM t f (x :: xs) = (t x).nr.bind fun b => if b = true then (f x).nr.bind fun y => (compM t f xs).bind fun ys => .ok (y :: ys) else compM t f xs := rfl
/-- frames with some names forgotten -/
def wipeF (Γ : Fm) : List Nat → Fm
  | [] => Γ
  | v :: vs => (wipeF Γ vs).set v none
section
variable {K : PySem.W.Frag} {cA : Str → Addr} {B G0 G H : Hp} {σ : L2.St} {Γ : Fm} {L : Led}
theorem Stt.wipe (s : Stt K cA B G0 G H σ Γ L) : ∀ vs : List Nat, Stt K cA B G0 G H (L2.wipe σ vs) (wipeF Γ vs) L
  | [] => s
  | v :: vs => (Stt.wipe s vs).setN
end
/-- within a comprehension nothing is raised -/
abbrev blkCfg (c : Cfg) (s : Shared) (H : Hp) (scope : Scope) (C : Addr) (cl : List (Str × Addr)) (fp : List Addr) : Cfg := ⟨c.X.blk s H scope (compEnvC scope cl C c.X.env) fp, c.cA, fun _ _ _ _ => False⟩

section
variable {c : Cfg} {Γ xf : Fm} {L xl : Led} {α β γ O : Type} [Enc α] [Enc β] [Enc γ] {κ : O → Outc} {rest : List Stmt}
/-- what the reading of a comprehension asks, for what is walked and made -/
theorem lc_read {tg iter : Expr} {vs : List Nat} {mi : M (List α)} {f : α → Fm → Fm} {ws : List Nat} {mt : α → M Bool} {me : α → M β} {g : TG} {tt : TT} {te : TE}
    (hi : CI c tg iter Γ L mi) (hw : ∀ i ∈ ws, i ∈ vs)
    (hg : ∀ (B G0 G H : Hp) (σ : L2.St) (Γ : Fm) (L : Led) (v : V) (x : α) (Q : L2.St → Hp → Prop), Stt c.K c.cA B G0 G H σ Γ L → Rp c.K c.cA G v (enc x) → (∀ σ', Stt c.K c.cA B G0 G H σ' (f x Γ) L → (∀ us : List Nat, (∀ i ∈ ws, i ∈ us) → wipe σ' us = wipe σ us) → Q σ' H) → g v σ H Q)
    (ht : ∀ (x : α) (B G0 G H : Hp) (σ : L2.St) (Q : Bool → Hp → Prop) (b : Bool), Stt c.K c.cA B G0 G H σ (f x (wipeF Γ vs)) L → mt x = .ok b → (∀ G' H', Ext G H G' H' → Q b H') → tt σ H Q)
    (he : ∀ (x : α) (B G0 G H : Hp) (σ : L2.St) (Q : VK) (y : β), Stt c.K c.cA B G0 G H σ (f x (wipeF Γ vs)) L → me x = .ok y → (∀ v G' H', Ext G H G' H' → Rp c.K c.cA G' v (enc y) → Q v H') → te σ H Q)
    (B G0 G H : Hp) (σ : L2.St) (Q : VK) (s : Stt c.K c.cA B G0 G H σ Γ L) (p : PstN c G H σ Q (mi.bind fun xs => compM mt me xs)) : tLc (wpI c.X tg iter) g tt te vs σ H Q := by
  show wpI c.X tg iter σ H _
  refine wpI_len ?_
  cases mi with
  | stuck => exact p.elim
  | raise z => exact hi B G0 G H σ _ s p
  | ok xs =>
    refine hi B G0 G H σ _ s fun J G' H' e io lenH => ?_
    obtain ⟨hbd, I, Y, wk, hI, hY⟩ := io
    have hbd := hbd H' e.gh lenH
    intro Dl hD
    have p := PstN.ext e p
    have p : PstN c G' H' σ Q (compM mt me xs) := p
    have s1 := (s.exts e).wipe vs
    have s2 : Stt c.K c.cA B G' G' (upd H' Dl (.lst [])) (wipe σ vs) (wipeF Γ vs) ((Dl, .lst (encL ([] : List β))) :: L) := Stt.new s1.self hD ⟨[], upd_same, .nil⟩
    refine lc_it wk (fun i H1 => ∃ (G1 : Hp) (ys : List β), Stt c.K c.cA B G' G1 H1 (wipe σ vs) (wipeF Γ vs) ((Dl, .lst (encL ys)) :: L) ∧ Sub H' H1 ∧ (∀ a, H' a ≠ none → G1 a = G' a) ∧ ys.length ≤ i ∧ compM mt me xs = (compM mt me (xs.drop i)).bind (fun zs => .ok (ys ++ zs))) ?_ ?_ ?_ ?_
    · refine ⟨G', [], s2, Sub.upd hD, fun _ _ => rfl, Nat.le_refl _, ?_⟩
      rw [List.drop_zero]
      cases compM mt me xs <;> rfl
    · rintro i H1 hi ⟨G1, ys, st, _⟩
      exact hI H1 (st.g0.trans st.gh)
    · rintro i v H1 H2 hi ⟨G1, ys, st, sh, sf, hle, eq⟩ hy
      obtain ⟨G2, e2, r2⟩ := hY i xs[i] H1 v H2 G1 (List.getElem?_eq_getElem hi) hy st.g0 st.gh
      have st2 := st.exts e2
      refine hg B G' G2 H2 (wipe σ vs) _ _ v xs[i] _ st2 r2 fun σ2 st3 hw2 => ⟨?_, ?_⟩
      · have := hw2 vs hw
        rw [this]
        refine List.ext_getElem? fun k => ?_
        rw [wipe_get, wipe_get]
        split
        · cases σ[k]? <;> rfl
        · rfl
      · have st3' := st3.wk (L' := L) ⟨rfl, fun _ _ h => h, List.sublist_cons_self _ _⟩
        rw [List.drop_eq_getElem_cons hi] at eq
        rw [compM_cons] at eq
        have hx : ∃ b, mt xs[i] = .ok b := by
          cases h : mt xs[i] with
          | ok b => exact ⟨b, rfl⟩
          | stuck => rw [h] at eq; rw [show compM mt me xs = M.stuck from eq] at p; exact p.elim
          | raise z => rw [h] at eq; rw [show compM mt me xs = M.stuck from eq] at p; exact p.elim
        obtain ⟨b, hb⟩ := hx
        rw [hb] at eq
        refine ht xs[i] B G' G2 H2 σ2 _ b st3' hb fun G3 H3 e3 => ?_
        have sf2 : ∀ a, H' a ≠ none → G2 a = G' a := fun a ha => by
          rw [e2.fr a (fun z => ha (sh.free z)), sf a ha]
        cases b with
        | false =>
          have st4 := st2.exts e3
          exact ⟨G3, ys, st4, sh.trans (e2.h.trans e3.h), fun a ha => by rw [e3.fr a (fun z => ha ((sh.trans e2.h).free z)), sf2 a ha], Nat.le_succ_of_le hle, eq⟩
        | true =>
          have hy : ∃ y, me xs[i] = .ok y := by
            cases h : me xs[i] with
            | ok y => exact ⟨y, rfl⟩
            | stuck => rw [h] at eq; rw [show compM mt me xs = M.stuck from eq] at p; exact p.elim
            | raise z => rw [h] at eq; rw [show compM mt me xs = M.stuck from eq] at p; exact p.elim
          obtain ⟨y, hy⟩ := hy
          rw [hy] at eq
          refine he xs[i] B G' G3 H3 σ2 _ y (st3'.exts e3) hy fun u G4 H4 e4 ru => ?_
          have st5 := (st2.exts e3).exts e4
          obtain ⟨g5, b5, us, hus, rus⟩ := st5.cell Dl _ List.mem_cons_self
          have eq : compM mt me xs = ((compM mt me (xs.drop (i + 1))).bind fun zs => M.ok (y :: zs)).bind fun zs => .ok (ys ++ zs) := eq
          have hlen : us.length = ys.length := by rw [rus.length]; unfold encL; rw [List.length_map]
          refine ⟨us, hus, by rw [hlen]; omega, G4, ys ++ [y], ?_, ?_, ?_, by rw [List.length_append]; exact Nat.succ_le_succ hle, ?_⟩
          · have := st5.writeAt (j := 0) (o := .lst (us ++ [u])) (ce' := .lst (encL (ys ++ [y]))) rfl ⟨us ++ [u], upd_same, by unfold encL at rus ⊢; rw [List.map_append]; exact rus.snoc ru⟩
            exact this
          · intro a o ha
            have hne : a ≠ Dl := ne_of_none ha hD
            rw [upd_ne hne]
            exact (sh.trans (e2.h.trans (e3.h.trans e4.h))) a o ha
          · intro a ha
            rw [e4.fr a (fun z => ha ((sh.trans (e2.h.trans e3.h)).free z)), e3.fr a (fun z => ha ((sh.trans e2.h).free z)), sf2 a ha]
          · rw [eq, M.bind_assoc]
            congr 1
            funext zs
            show M.ok (ys ++ (y :: zs)) = M.ok ((ys ++ [y]) ++ zs)
            rw [List.append_assoc]; rfl
    · rintro H1 ⟨G1, ys, st, sh, sf, _, eq⟩
      rw [List.drop_length] at eq
      have eq : compM mt me xs = .ok (ys ++ []) := eq
      rw [List.append_nil] at eq
      rw [eq] at p
      obtain ⟨g5, b5, us, hus, rus⟩ := st.cell Dl _ List.mem_cons_self
      exact p Dl us G1 H1 ⟨st.g0, st.gh, sh, sf⟩ hD g5 hus rus
/-- [elt for tg in iter if t] -/
theorem lc_all {own : List (Str × Nat)} {tg iter elt : Expr} {ifs : List Expr} {scope : Scope} {mi : M (List α)} {f : α → Fm → Fm} {ws : List Nat} {mt : α → M Bool} {me : α → M β}
    (hi : CI c tg iter Γ L mi) (hw : ∀ i ∈ ws, i ∈ own.map (·.2)) (hg : ∀ s H C cl fp, CG (blkCfg c s H scope C cl fp) tg f ws)
    (ht : ∀ (x : α) s H C cl fp (B G0 G H1 : Hp) (σ : L2.St) (Q : Bool → Hp → Prop) (b : Bool), Stt c.K c.cA B G0 G H1 σ (f x (wipeF Γ (own.map (·.2)))) L → mt x = .ok b → (∀ G' H', Ext G H1 G' H' → Q b H') →
      ∀ (pins : List (Addr × Obj)) (sh : Shared), Inv (blkCfg c s H scope C cl fp).X pins σ H1 sh → wpAny (model c.X.prog c.X.w) c.X.A (forIn ifs true fun c' r => if r = true then do let ok ← isTrue c' (blkCfg c s H scope C cl fp).X.env (eval c' (blkCfg c s H scope C cl fp).X.env); pure (ForInStep.yield ok) else pure (ForInStep.yield r)) (TP (blkCfg c s H scope C cl fp).X pins σ Q) (blkCfg c s H scope C cl fp).X.xe sh)
    (he : ∀ (x : α) s H C cl fp, CE (blkCfg c s H scope C cl fp) elt (f x (wipeF Γ (own.map (·.2)))) L (me x)) :
    ∃ (g : TG) (tt : TT) (te : TE), (∀ (s : Shared) (H : Hp) (C : Addr) (cl : List (Str × Addr)) (fp : List Addr), PG (c.X.blk s H scope (compEnvC scope cl C c.X.env) fp) tg g) ∧ (∀ (s : Shared) (H : Hp) (C : Addr) (cl : List (Str × Addr)) (fp : List Addr), PTs (c.X.blk s H scope (compEnvC scope cl C c.X.env) fp) ifs tt) ∧
      (∀ (s : Shared) (H : Hp) (C : Addr) (cl : List (Str × Addr)) (fp : List Addr), PE (c.X.blk s H scope (compEnvC scope cl C c.X.env) fp) elt te) ∧
      ∀ (B G0 G H : Hp) (σ : L2.St) (Q : VK), Stt c.K c.cA B G0 G H σ Γ L → PstN c G H σ Q (mi.bind fun xs => compM mt me xs) → tLc (wpI c.X tg iter) g tt te (own.map (·.2)) σ H Q := by
  refine ⟨fun v σ H Q => ∀ s H0 C cl fp, wpG (blkCfg c s H0 scope C cl fp).X tg v σ H Q,
    fun σ H Q => ∀ s H0 C cl fp (pins : List (Addr × Obj)) (sh : Shared), Inv (blkCfg c s H0 scope C cl fp).X pins σ H sh → wpAny (model c.X.prog c.X.w) c.X.A (forIn ifs true fun c' r => if r = true then do let ok ← isTrue c' (blkCfg c s H0 scope C cl fp).X.env (eval c' (blkCfg c s H0 scope C cl fp).X.env); pure (ForInStep.yield ok) else pure (ForInStep.yield r)) (TP (blkCfg c s H0 scope C cl fp).X pins σ Q) (blkCfg c s H0 scope C cl fp).X.xe sh,
    fun σ H Q => ∀ s H0 C cl fp, wpE (blkCfg c s H0 scope C cl fp).X elt σ H Q, ?_, ?_, ?_, ?_⟩
  · exact fun s H C cl fp => ⟨fun pins sh σ H1 v u Q I r h => pg_wp.run pins sh σ H1 v u Q I r (h s H C cl fp)⟩
  · exact fun s H C cl fp => ⟨fun pins sh σ H1 Q I h => h s H C cl fp pins sh I⟩
  · exact fun s H C cl fp => ⟨fun pins sh σ H1 Q I h => pe_wp.run pins sh σ H1 Q I (h s H C cl fp)⟩
  · refine lc_read (f := f) hi hw ?_ ?_ ?_
    · exact fun B G0 G H σ Γ L v x Q st r q s H0 C cl fp => hg s H0 C cl fp B G0 G H σ Γ L v x Q st r q
    · exact fun x B G0 G H σ Q b st hm q s H0 C cl fp pins sh I => ht x s H0 C cl fp B G0 G H σ Q b st hm q pins sh I
    · intro x B G0 G H σ Q y st hm q s H0 C cl fp
      refine he x s H0 C cl fp B G0 G H σ Q st ?_
      rw [hm]
      exact fun v G' H' e r => q v G' H' e r
section
variable {own : List (Str × Nat)} {tg iter elt t : Expr} {scope : Scope} {pos : Pos} {mi : M (List α)} {f : α → Fm → Fm} {ws : List Nat} {mt : α → M Bool} {me : α → M β}
theorem lc_test (ht : ∀ (x : α) s H C cl fp, CT (blkCfg c s H scope C cl fp) t (f x (wipeF Γ (own.map (·.2)))) L (mt x)) (x : α) s H C cl fp (B G0 G H1 : Hp) (σ : L2.St) (Q : Bool → Hp → Prop) (b : Bool) (st : Stt c.K c.cA B G0 G H1 σ (f x (wipeF Γ (own.map (·.2)))) L) (hm : mt x = .ok b) (q : ∀ G' H', Ext G H1 G' H' → Q b H')
    (pins : List (Addr × Obj)) (sh : Shared) (I : Inv (blkCfg c s H scope C cl fp).X pins σ H1 sh) : wpAny (model c.X.prog c.X.w) c.X.A (forIn [t] true fun c' r => if r = true then do let ok ← isTrue c' (blkCfg c s H scope C cl fp).X.env (eval c' (blkCfg c s H scope C cl fp).X.env); pure (ForInStep.yield ok) else pure (ForInStep.yield r)) (TP (blkCfg c s H scope C cl fp).X pins σ Q) (blkCfg c s H scope C cl fp).X.xe sh := by
  refine (pts_one pt_wp).run pins sh σ H1 Q I (ht x s H C cl fp B G0 G H1 σ Q st ?_)
  rw [hm]
  exact q
theorem lc_notest (x : α) s H C cl fp (B G0 G H1 : Hp) (σ : L2.St) (Q : Bool → Hp → Prop) (b : Bool) (st : Stt c.K c.cA B G0 G H1 σ (f x (wipeF Γ (own.map (·.2)))) L) (hm : (M.ok true : M Bool) = .ok b) (q : ∀ G' H', Ext G H1 G' H' → Q b H')
    (pins : List (Addr × Obj)) (sh : Shared) (I : Inv (blkCfg c s H scope C cl fp).X pins σ H1 sh) : wpAny (model c.X.prog c.X.w) c.X.A (forIn ([] : List Expr) true fun c' r => if r = true then do let ok ← isTrue c' (blkCfg c s H scope C cl fp).X.env (eval c' (blkCfg c s H scope C cl fp).X.env); pure (ForInStep.yield ok) else pure (ForInStep.yield r)) (TP (blkCfg c s H scope C cl fp).X pins σ Q) (blkCfg c s H scope C cl fp).X.xe sh := by
  cases hm
  exact pts_nil.run pins sh σ H1 Q I (q G H1 (Ext.refl st.gh))
theorem cn_lcF (hc : c.X.calm = true) (nd : c.X.N.Nodup) (ok : BlkOk c.X.N c.X.env.scope scope own) (hi : CI c tg iter Γ L mi) (hg : ∀ s H C cl fp, CG (blkCfg c s H scope C cl fp) tg f ws)
    (ht : ∀ (x : α) s H C cl fp, CT (blkCfg c s H scope C cl fp) t (f x (wipeF Γ (own.map (·.2)))) L (mt x)) (he : ∀ (x : α) s H C cl fp, CE (blkCfg c s H scope C cl fp) elt (f x (wipeF Γ (own.map (·.2)))) L (me x))
    (hw : ∀ i ∈ ws, i ∈ own.map (·.2) := by decide) (hs : ∀ x, foldedSetIterable iter c.X.env x = pure x := by intro _; rfl) : CN c (.ListComp elt [⟨tg, iter, [t], 0⟩] scope pos) Γ L (mi.bind fun xs => compM mt me xs) := fun B G0 G H σ Q s p => by
  obtain ⟨g, tt, te, h1, h2, h3, h4⟩ := lc_all (own := own) hi hw hg (lc_test ht) he
  exact wpE_of (pe_lc hc nd pi_wp ok h1 h2 h3 hs) (h4 B G0 G H σ Q s p)
theorem cn_lc (hc : c.X.calm = true) (nd : c.X.N.Nodup) (ok : BlkOk c.X.N c.X.env.scope scope own) (hi : CI c tg iter Γ L mi) (hg : ∀ s H C cl fp, CG (blkCfg c s H scope C cl fp) tg f ws)
    (he : ∀ (x : α) s H C cl fp, CE (blkCfg c s H scope C cl fp) elt (f x (wipeF Γ (own.map (·.2)))) L (me x))
    (hw : ∀ i ∈ ws, i ∈ own.map (·.2) := by decide) (hs : ∀ x, foldedSetIterable iter c.X.env x = pure x := by intro _; rfl) : CN c (.ListComp elt [⟨tg, iter, [], 0⟩] scope pos) Γ L (mi.bind fun xs => mapM me xs) := fun B G0 G H σ Q s p => by
  obtain ⟨g, tt, te, h1, h2, h3, h4⟩ := lc_all (own := own) (mt := fun _ => .ok true) hi hw hg lc_notest he
  exact wpE_of (pe_lc hc nd pi_wp ok h1 h2 h3 hs) (h4 B G0 G H σ Q s (by
    rw [show (fun xs => compM (fun _ => M.ok true) me xs) = fun xs => mapM me xs by funext xs; exact compM_true me xs]
    exact p))
/-- the same, the items' values plain -/
theorem cn_lcP {p : α → β} (hc : c.X.calm = true) (nd : c.X.N.Nodup) (ok : BlkOk c.X.N c.X.env.scope scope own) (hi : CI c tg iter Γ L mi) (hg : ∀ s H C cl fp, CG (blkCfg c s H scope C cl fp) tg f ws)
    (he : ∀ (x : α) s H C cl fp, CE (blkCfg c s H scope C cl fp) elt (f x (wipeF Γ (own.map (·.2)))) L (.ok (p x)))
    (hw : ∀ i ∈ ws, i ∈ own.map (·.2) := by decide) (hs : ∀ x, foldedSetIterable iter c.X.env x = pure x := by intro _; rfl) : CN c (.ListComp elt [⟨tg, iter, [], 0⟩] scope pos) Γ L (mi.bind fun xs => .ok (xs.map p)) :=
  cn_is (cn_lc hc nd ok hi hg he hw hs) (by congr 1; funext xs; exact mapM_ok p xs)
theorem cn_lcFP {p : α → β} {q : α → Bool} (hc : c.X.calm = true) (nd : c.X.N.Nodup) (ok : BlkOk c.X.N c.X.env.scope scope own) (hi : CI c tg iter Γ L mi) (hg : ∀ s H C cl fp, CG (blkCfg c s H scope C cl fp) tg f ws)
    (ht : ∀ (x : α) s H C cl fp, CT (blkCfg c s H scope C cl fp) t (f x (wipeF Γ (own.map (·.2)))) L (.ok (q x))) (he : ∀ (x : α) s H C cl fp, CE (blkCfg c s H scope C cl fp) elt (f x (wipeF Γ (own.map (·.2)))) L (.ok (p x)))
    (hw : ∀ i ∈ ws, i ∈ own.map (·.2) := by decide) (hs : ∀ x, foldedSetIterable iter c.X.env x = pure x := by intro _; rfl) : CN c (.ListComp elt [⟨tg, iter, [t], 0⟩] scope pos) Γ L (mi.bind fun xs => .ok ((xs.filter q).map p)) :=
  cn_is (cn_lcF hc nd ok hi hg ht he hw hs) (by congr 1; funext xs; exact compM_eq (fun _ _ => rfl) fun _ _ _ => rfl)
end
/-- x = [..]: a comprehension stored on its line -/
def CLs (c : Cfg) (e : Expr) (Γ : Fm) (L : Led) (m : M (List β)) : Prop :=
  ∀ (y : Str) (i : Nat) (py spos : Pos), c.X.N[i]? = some y → c.X.env.scope.names.lookup y = some .local → swapsWith e (some (.Name y py)) spos.line c.X.env = pure true →
    ∀ (B G0 G H : Hp) (σ : L2.St) (D : Ends), Stt c.K c.cA B G0 G H σ Γ L → PstN c G H σ (fun v H' => D.nx (σ.set i (some v)) H') m → wpS c.X (.Assign [.Name y py] e spos) D σ H
theorem cl_is {e : Expr} {m m' : M (List β)} (h : CLs c e Γ L m) (q : m = m') : CLs c e Γ L m' := q ▸ h
section
variable {own : List (Str × Nat)} {tg iter elt t : Expr} {scope : Scope} {pos : Pos} {mi : M (List α)} {f : α → Fm → Fm} {ws : List Nat} {mt : α → M Bool} {me : α → M β}
theorem cl_lcF (hc : c.X.calm = true) (nd : c.X.N.Nodup) (ok : BlkOk c.X.N c.X.env.scope scope own) (hi : CI c tg iter Γ L mi) (hg : ∀ s H C cl fp, CG (blkCfg c s H scope C cl fp) tg f ws)
    (ht : ∀ (x : α) s H C cl fp, CT (blkCfg c s H scope C cl fp) t (f x (wipeF Γ (own.map (·.2)))) L (mt x)) (he : ∀ (x : α) s H C cl fp, CE (blkCfg c s H scope C cl fp) elt (f x (wipeF Γ (own.map (·.2)))) L (me x))
    (hw : ∀ i ∈ ws, i ∈ own.map (·.2) := by decide) (hs : ∀ x, foldedSetIterable iter c.X.env x = pure x := by intro _; rfl) : CLs c (.ListComp elt [⟨tg, iter, [t], 0⟩] scope pos) Γ L (mi.bind fun xs => compM mt me xs) := fun _ _ _ _ hN hl hsw B G0 G H σ D s p => by
  obtain ⟨g, tt, te, h1, h2, h3, h4⟩ := lc_all (own := own) hi hw hg (lc_test ht) he
  exact wpS_of (ps_setLc hc nd hN hl hsw pi_wp ok h1 h2 h3 hs) (h4 B G0 G H σ _ s p)
theorem cl_lc (hc : c.X.calm = true) (nd : c.X.N.Nodup) (ok : BlkOk c.X.N c.X.env.scope scope own) (hi : CI c tg iter Γ L mi) (hg : ∀ s H C cl fp, CG (blkCfg c s H scope C cl fp) tg f ws)
    (he : ∀ (x : α) s H C cl fp, CE (blkCfg c s H scope C cl fp) elt (f x (wipeF Γ (own.map (·.2)))) L (me x))
    (hw : ∀ i ∈ ws, i ∈ own.map (·.2) := by decide) (hs : ∀ x, foldedSetIterable iter c.X.env x = pure x := by intro _; rfl) : CLs c (.ListComp elt [⟨tg, iter, [], 0⟩] scope pos) Γ L (mi.bind fun xs => mapM me xs) := fun _ _ _ _ hN hl hsw B G0 G H σ D s p => by
  obtain ⟨g, tt, te, h1, h2, h3, h4⟩ := lc_all (own := own) (mt := fun _ => .ok true) hi hw hg lc_notest he
  exact wpS_of (ps_setLc hc nd hN hl hsw pi_wp ok h1 h2 h3 hs) (h4 B G0 G H σ _ s (by
    rw [show (fun xs => compM (fun _ => M.ok true) me xs) = fun xs => mapM me xs by funext xs; exact compM_true me xs]
    exact p))
theorem cl_lcP {p : α → β} (hc : c.X.calm = true) (nd : c.X.N.Nodup) (ok : BlkOk c.X.N c.X.env.scope scope own) (hi : CI c tg iter Γ L mi) (hg : ∀ s H C cl fp, CG (blkCfg c s H scope C cl fp) tg f ws)
    (he : ∀ (x : α) s H C cl fp, CE (blkCfg c s H scope C cl fp) elt (f x (wipeF Γ (own.map (·.2)))) L (.ok (p x)))
    (hw : ∀ i ∈ ws, i ∈ own.map (·.2) := by decide) (hs : ∀ x, foldedSetIterable iter c.X.env x = pure x := by intro _; rfl) : CLs c (.ListComp elt [⟨tg, iter, [], 0⟩] scope pos) Γ L (mi.bind fun xs => .ok (xs.map p)) := 
  cl_is (cl_lc hc nd ok hi hg he hw hs) (by congr 1; funext xs; exact mapM_ok p xs)
theorem cl_lcFP {p : α → β} {q : α → Bool} (hc : c.X.calm = true) (nd : c.X.N.Nodup) (ok : BlkOk c.X.N c.X.env.scope scope own) (hi : CI c tg iter Γ L mi) (hg : ∀ s H C cl fp, CG (blkCfg c s H scope C cl fp) tg f ws)
    (ht : ∀ (x : α) s H C cl fp, CT (blkCfg c s H scope C cl fp) t (f x (wipeF Γ (own.map (·.2)))) L (.ok (q x))) (he : ∀ (x : α) s H C cl fp, CE (blkCfg c s H scope C cl fp) elt (f x (wipeF Γ (own.map (·.2)))) L (.ok (p x)))
    (hw : ∀ i ∈ ws, i ∈ own.map (·.2) := by decide) (hs : ∀ x, foldedSetIterable iter c.X.env x = pure x := by intro _; rfl) : CLs c (.ListComp elt [⟨tg, iter, [t], 0⟩] scope pos) Γ L (mi.bind fun xs => .ok ((xs.filter q).map p)) := 
  cl_is (cl_lcF hc nd ok hi hg ht he hw hs) (by congr 1; funext xs; exact compM_eq (fun _ _ => rfl) fun _ _ _ => rfl)
end
theorem cs_setL {i : Nat} {x : Str} {e : Expr} {pos pos' : Pos} {m : M (List α)} {k : List α → M O} (he : CLs c e Γ L m) (hr : ∀ ys, CS c xf xl rest (Γ.set i (some (enc ys))) L κ (k ys)) (hsw : swapsWith e (some (.Name x pos')) pos.line c.X.env = pure true) (hN : c.X.N[i]? = some x := by rfl)
    (hl : c.X.env.scope.names.lookup x = some .local := by rfl) (hx : Wk Γ L xf xl := by exact wk_no rfl) :
    CS c xf xl (.Assign [.Name x pos'] e pos :: rest) Γ L κ (m.bind k) := fun B G0 G H σ D s p => by
  refine wpSs_of (pss_cons ps_wp pss_wp) ?_
  refine he _ _ _ _ hN hl hsw B G0 G H σ _ s ?_
  refine Pst.ofN ?_
  cases m with
  | stuck => exact p.elim
  | raise z => exact PstS.raise s hx p
  | ok ys => exact fun v G1 H1 e1 r1 => hr ys B G0 G1 H1 _ D ((s.exts e1).set r1) p
theorem stt_newList {K : PySem.W.Frag} {cA : Str → Addr} {B G0 G H G' H' : Hp} {σ : L2.St} {a : Addr} {vs : List V} {ys : List α} (s : Stt K cA B G0 G H σ Γ L) (e : Ext G H G' H') (n : H a = none) (g : G' a = none) (ha : H' a = some (.lst vs)) (r : RpAll K cA G' vs (encL ys)) :
    Stt K cA B G0 G' H' σ Γ ((a, .lst (encL ys)) :: L) := by
  have s2 := s.exts e
  have hB : B a = none := s.bh.free n
  exact { s2 with
    nd := by
      rw [List.map_cons, List.nodup_cons]
      refine ⟨fun z => ?_, s2.nd⟩
      obtain ⟨⟨p', c'⟩, h1, h2⟩ := List.mem_map.mp z
      have h2 : p' = a := h2
      subst h2
      obtain ⟨o, ho⟩ := (s.cell p' c' h1).2.2.some
      rw [n] at ho; cases ho
    cell := fun p' c' h' => by
      rcases List.mem_cons.mp h' with z | h'
      · cases z; exact ⟨g, hB, vs, ha, r⟩
      · exact s2.cell p' c' h' }
theorem cs_setLN {i : Nat} {x : Str} {e : Expr} {pos pos' : Pos} {m : M (List α)} {k : List α → M O} (he : CLs c e Γ L m) (hr : ∀ ys a, CS c xf xl rest (Γ.set i (some (.own a))) ((a, .lst (encL ys)) :: L) κ (k ys)) (hsw : swapsWith e (some (.Name x pos')) pos.line c.X.env = pure true) (hN : c.X.N[i]? = some x := by rfl)
    (hl : c.X.env.scope.names.lookup x = some .local := by rfl) (hx : Wk Γ L xf xl := by exact wk_no rfl) :
    CS c xf xl (.Assign [.Name x pos'] e pos :: rest) Γ L κ (m.bind k) := fun B G0 G H σ D s p => by
  refine wpSs_of (pss_cons ps_wp pss_wp) ?_
  refine he _ _ _ _ hN hl hsw B G0 G H σ _ s ?_
  cases m with
  | stuck => exact p.elim
  | raise z => exact PstS.raiseN s hx p
  | ok ys => exact fun a vs G1 H1 e1 n g ha r => hr ys a B G0 G1 H1 _ D ((stt_newList s e1 n g ha r).set (.own a)) p

/-! ### short forms -/
theorem ce_modC {a : Expr} {pos p2 : Pos} {j} {m : M Int} {n : Int} (ha : CE c a Γ L m) (h : 0 < n := by decide) : CE c (.BinOp a .Mod (.Constant (.int n) j p2) pos) Γ L (m.bind fun x => .ok (x % n)) := fun B G0 G H σ Q s p => by
  refine wpE_of (pe_op op_mod pe_wp pe_int) ?_
  refine ha.then (P := Pst c G H σ Q) s p (fun z => z) (fun e z => z) fun x v G1 H1 p e1 s1 r1 => ?_
  cases r1
  exact ⟨_, _, rfl, rfl, h, p _ G1 H1 e1 (.int _)⟩
theorem ce_divC {a : Expr} {pos p2 : Pos} {j} {m : M Int} {n : Int} (ha : CE c a Γ L m) (h : 0 < n ∧ n < 1073741824 := by decide) : CE c (.BinOp a .FloorDiv (.Constant (.int n) j p2) pos) Γ L (m.bind fun x => .ok (x / n)) := fun B G0 G H σ Q s p => by
  refine wpE_of (pe_op op_fdiv pe_wp pe_int) ?_
  refine ha.then (P := Pst c G H σ Q) s p (fun z => z) (fun e z => z) fun x v G1 H1 p e1 s1 r1 => ?_
  cases r1
  exact ⟨_, _, rfl, rfl, h, p _ G1 H1 e1 (.int _)⟩
theorem ce_mulC {a : Expr} {pos p2 : Pos} {j} {m : M Int} {n : Int} (ha : CE c a Γ L m) (h : -w64 < n ∧ n < w64 := by decide) : CE c (.BinOp a .Mult (.Constant (.int n) j p2) pos) Γ L (m.bind fun x => .ok (x * n)) := fun B G0 G H σ Q s p => by
  refine wpE_of (pe_op op_mul pe_wp pe_int) ?_
  refine ha.then (P := Pst c G H σ Q) s p (fun z => z) (fun e z => z) fun x v G1 H1 p e1 s1 r1 => ?_
  cases r1
  rw [w64_eq] at h
  exact ⟨_, _, rfl, rfl, .inr h, p _ G1 H1 e1 (.int _)⟩
theorem ce_Cmul {a : Expr} {pos p2 : Pos} {j} {m : M Int} {n : Int} (ha : CE c a Γ L m) (h : -w64 < n ∧ n < w64 := by decide) : CE c (.BinOp (.Constant (.int n) j p2) .Mult a pos) Γ L (m.bind fun x => .ok (n * x)) := fun B G0 G H σ Q s p => by
  refine wpE_of (pe_op op_mul pe_int pe_wp) ?_
  show wpE c.X a σ H _
  refine ha.then (P := Pst c G H σ Q) s p (fun z => z) (fun e z => z) fun x v G1 H1 p e1 s1 r1 => ?_
  cases r1
  rw [w64_eq] at h
  exact ⟨_, _, rfl, rfl, .inl h, p _ G1 H1 e1 (.int _)⟩
theorem ce_powC {pos p1 p2 : Pos} {i j} {x y z : Int} (h : CPow x y := by exact ⟨by decide, by decide, by decide⟩) (hz : x ^ y.toNat = z := by decide) : CE c (.BinOp (.Constant (.int x) i p1) .Pow (.Constant (.int y) j p2) pos) Γ L (.ok z) := fun B G0 G H σ Q s p => by
  refine wpE_of (pe_op op_pow pe_int pe_int) ?_
  exact ⟨_, _, rfl, rfl, h, by show Q (V.int (x ^ y.toNat)) H; rw [hz]; exact p _ G H (Ext.refl s.gh) (.int _)⟩
/-- all parts plain -/
theorem ct_andP {a b : Expr} {r : List Expr} {pos : Pos} {x y : Bool} (ha : CT c a Γ L (.ok x)) (hb : CW c (.BoolOp .And (b :: r) pos) Γ L (.ok y)) : CW c (.BoolOp .And (a :: b :: r) pos) Γ L (.ok (x && y)) := by
  have h := cw_and (pos := pos) ha hb
  cases x <;> exact h
theorem ct_orP {a b : Expr} {r : List Expr} {pos : Pos} {x y : Bool} (ha : CT c a Γ L (.ok x)) (hb : CW c (.BoolOp .Or (b :: r) pos) Γ L (.ok y)) : CW c (.BoolOp .Or (a :: b :: r) pos) Γ L (.ok (x || y)) := by
  have h := cw_or (pos := pos) ha hb
  cases x <;> exact h
theorem ce_andP {a b : Expr} {r : List Expr} {pos : Pos} {x y : Bool} (ha : CE c a Γ L (.ok x)) (hb : CE c (.BoolOp .And (b :: r) pos) Γ L (.ok y)) : CE c (.BoolOp .And (a :: b :: r) pos) Γ L (.ok (x && y)) := by
  have h := ce_and (pos := pos) ha hb
  cases x <;> exact h
theorem ce_orP {a b : Expr} {r : List Expr} {pos : Pos} {x y : Bool} (ha : CE c a Γ L (.ok x)) (hb : CE c (.BoolOp .Or (b :: r) pos) Γ L (.ok y)) : CE c (.BoolOp .Or (a :: b :: r) pos) Γ L (.ok (x || y)) := by
  have h := ce_or (pos := pos) ha hb
  cases x <;> exact h
theorem ce_ifP {t a b : Expr} {pos : Pos} {x : Bool} {y z : α} (ht : CT c t Γ L (.ok x)) (ha : CE c a Γ L (.ok y)) (hb : CE c b Γ L (.ok z)) : CE c (.IfExp t a b pos) Γ L (.ok (if x = true then y else z)) := by
  have h := ce_ifExp (pos := pos) ht ha hb
  cases x <;> exact h
theorem cs_ifJP {S : Type} {t : Expr} {a b : List Stmt} {pos : Pos} {mt : M Bool} {y z : S} {k : S → M O} (fr : S → List Addr → Fm) (lr : S → List Addr → Led) (ht : CT c t Γ L mt) (ha : CS c xf xl a Γ L (goK fr lr) (.ok y)) (hb : CS c xf xl b Γ L (goK fr lr) (.ok z))
    (hr : ∀ s as, CS c xf xl rest (fr s as) (lr s as) κ (k s)) (hx : Wk Γ L xf xl := by exact wk_no rfl) : CS c xf xl (.If t a b pos :: rest) Γ L κ (mt.bind fun x => k (if x = true then y else z)) := by
  have h := cs_ifJ fr lr ht ha hb hr hx (pos := pos)
  refine cs_is h ?_
  congr 1
  funext x
  cases x <;> rfl
/-- a name of the module -/
theorem ce_glob {x : Str} {v : V} {u : Value} {y : α} {pos : Pos} (hm : c.X.mg x = some u) (r : RelV v u) (rp : ∀ G, Rp c.K c.cA G v (enc y)) (hg : Gl c.X x := by rfl) (hd : (x == ("__debug__" : Str)) = false := by decide) : CE c (.Name x pos) Γ L (.ok y) := fun B G0 G H σ Q s p => by
  exact wpE_of (pe_glob hg hm r hd) (p v G H (Ext.refl s.gh) (rp G))
theorem ce_globI {x : Str} {i : Int} {pos : Pos} (hm : ∃ t, c.X.mg x = some (.int i t)) (hg : Gl c.X x := by rfl) (hd : (x == ("__debug__" : Str)) = false := by decide) : CE c (.Name x pos) Γ L (.ok i) := by
  obtain ⟨t, hm⟩ := hm
  exact ce_glob (v := .int i) hm ⟨t, rfl⟩ (fun _ => .int i) hg hd
theorem ce_globS {x z : Str} {pos : Pos} (hm : ∃ t, c.X.mg x = some (.str z t)) (hg : Gl c.X x := by rfl) (hd : (x == ("__debug__" : Str)) = false := by decide) : CE c (.Name x pos) Γ L (.ok z) := by
  obtain ⟨t, hm⟩ := hm
  exact ce_glob (v := .str z) hm ⟨t, rfl⟩ (fun _ => .str z) hg hd
end
end Pf

/-! P10: chains, tables of the module, isinstance, displays of any length, unpacking, weakenings, fresh results. -/
namespace Pf
open PySem PySem.Spec L2
open PyProof.Rows hiding St
open M (need some!)

/-! ### weakenings by hand -/
inductive WkF : Fm → Fm → Prop
  | nil : WkF [] []
  | keep {o : Option D} {a b : Fm} : WkF a b → WkF (o :: a) (o :: b)
  | drop {o : Option D} {a b : Fm} : WkF a b → WkF (o :: a) (none :: b)
theorem WkF.ok : ∀ {a b : Fm}, WkF a b → a.length = b.length ∧ ∀ (i : Nat) (d : D), b[i]? = some (some d) → a[i]? = some (some d)
  | _, _, .nil => ⟨rfl, fun _ _ h => h⟩
  | _, _, .keep t => ⟨congrArg (· + 1) t.ok.1, fun i d h => by
    cases i with
    | zero => exact h
    | succ i => exact t.ok.2 i d h⟩
  | _, _, .drop t => ⟨congrArg (· + 1) t.ok.1, fun i d h => by
    cases i with
    | zero => cases h
    | succ i => exact t.ok.2 i d h⟩
theorem wkf_nil : WkF [] [] := .nil
theorem wkf_keep {o : Option D} {a b : Fm} (h : WkF a b) : WkF (o :: a) (o :: b) := .keep h
theorem wkf_drop {o : Option D} {a b : Fm} (h : WkF a b) : WkF (o :: a) (none :: b) := .drop h
theorem wkl_nil : List.Sublist ([] : Led) [] := .slnil
theorem wkl_keep {x : Addr × Cell} {a b : Led} (h : List.Sublist a b) : List.Sublist (x :: a) (x :: b) := .cons₂ x h
theorem wkl_drop {x : Addr × Cell} {a b : Led} (h : List.Sublist a b) : List.Sublist a (x :: b) := .cons x h
theorem wk_of {a b : Fm} {l m : Led} (h : WkF a b) (q : List.Sublist m l) : Wk a l b m := ⟨h.ok.1, h.ok.2, q⟩

/-- where nothing is raised -/
theorem takes_no {X : Cx} : Takes X (fun _ _ _ _ => False) := fun _ _ ⟨_, _, _, _, _, _, _, _, _, _, _, _, _, _, _, _, w⟩ => w.elim
theorem M.bindK {α β : Type} (x : α) (k : α → M β) : (M.ok x).bind k = k x := by
  have h : ∀ m : M α, m = .ok x → m.bind k = k x := fun m e => by subst e; rfl
  exact h _ rfl
theorem M.bindP {α : Type} (m : M α) : (m.bind fun x => M.ok x) = m := by cases m <;> rfl
def memB {α : Type} [DecidableEq α] (x : α) (xs : List α) : Bool := decide (x ∈ xs)
def eqB {α : Type} [DecidableEq α] (x y : α) : Bool := decide (x = y)
def absI (x : Int) : Int := if x < 0 then -x else x
def maxI (x y : Int) : Int := if y > x then y else x
def minI (x y : Int) : Int := if y < x then y else x

section
variable {c : Cfg} {Γ xf : Fm} {L L' xl : Led} {α β γ O : Type} [Enc α] [Enc β] [Enc γ] {κ : O → Outc} {rest : List Stmt}
/-! ### a < b < c -/
section
variable {op op' : CmpOp} {a b e : Expr} {pos : Pos} {ma : M α} {mb : M β} {z : γ} {p : α → β → Bool} {q : β → γ → Bool}
theorem ce_chain (h1 : ∀ x y, BOp c (compareOp op) x y (.ok (p x y))) (h2 : ∀ x y, BOp c (compareOp op') x y (.ok (q x y))) (ha : CE c a Γ L ma) (hb : CE c b Γ L mb) (hc : CE c e Γ L (.ok z)) (hm : lastMarks [op, op'] [b, e] = false := by with_unfolding_all rfl) :
    CE c (.Compare a [op, op'] [b, e] pos) Γ L (ma.bind fun x => mb.bind fun y => .ok (p x y && q y z)) := fun B G0 G H σ Q s pp => by
  refine wpE_of (pe_chain op_wp op_wp pe_wp pe_wp pe_wp hm) ?_
  refine ha.then (P := Pst c G H σ Q) s pp (fun z => z) (fun e z => z) fun x v G1 H1 pp e1 s1 r1 => ?_
  refine hb.then (P := Pst c G1 H1 σ Q) s1 (pp.ext e1) (fun z => z) (fun e z => z) fun y u G2 H2 pp e2 s2 r2 => ?_
  refine h1 x y G2 H2 σ v u _ s2.gh (r1.mono e2.g) r2 fun w' G3 H3 e3 r3 => ?_
  cases r3
  refine ⟨_, rfl, ?_⟩
  have pp := Pst.ext (e2.trans e3) pp
  cases hp : p x y with
  | false =>
    rw [if_neg (by decide)]
    rw [hp] at pp
    exact pp.val e3.gh (.bl _)
  | true =>
    rw [if_pos rfl]
    rw [hp, Bool.true_and] at pp
    refine hc B G0 G3 H3 σ _ (s2.exts e3) fun w2 G4 H4 e4 r4 => ?_
    exact h2 y z G4 H4 σ u w2 _ e4.gh (r2.mono (e3.g.trans e4.g)) r4 (Pst.ext e4 pp)
theorem ct_chain (h1 : ∀ x y, BOp c (compareOp op) x y (.ok (p x y))) (h2 : ∀ x y, BOp c (compareOp op') x y (.ok (q x y))) (ha : CE c a Γ L ma) (hb : CE c b Γ L mb) (hc : CE c e Γ L (.ok z)) (hm : lastMarks [op, op'] [b, e] = false := by with_unfolding_all rfl) :
    CT c (.Compare a [op, op'] [b, e] pos) Γ L (ma.bind fun x => mb.bind fun y => .ok (p x y && q y z)) := fun B G0 G H σ Q s pp => by
  refine wpT_of (pt_chain op_wp op_wp pe_wp pe_wp pe_wp hm) ?_
  refine ha.then (P := PstT c G H σ Q) s pp (fun z => z) (fun e z => z) fun x v G1 H1 pp e1 s1 r1 => ?_
  refine hb.then (P := PstT c G1 H1 σ Q) s1 (pp.ext e1) (fun z => z) (fun e z => z) fun y u G2 H2 pp e2 s2 r2 => ?_
  refine h1 x y G2 H2 σ v u _ s2.gh (r1.mono e2.g) r2 fun w' G3 H3 e3 r3 => ?_
  cases r3
  refine ⟨_, rfl, ?_⟩
  have pp := PstT.ext (e2.trans e3) pp
  cases hp : p x y with
  | false =>
    rw [if_neg (by decide)]
    rw [hp] at pp
    exact ⟨_, rfl, pp G3 H3 (Ext.refl e3.gh)⟩
  | true =>
    rw [if_pos rfl]
    rw [hp, Bool.true_and] at pp
    refine hc B G0 G3 H3 σ _ (s2.exts e3) fun w2 G4 H4 e4 r4 => ?_
    refine h2 y z G4 H4 σ u w2 _ e4.gh (r2.mono (e3.g.trans e4.g)) r4 fun w5 G5 H5 e5 r5 => ?_
    cases r5
    exact ⟨_, rfl, pp G5 H5 (e4.trans e5)⟩
end
/-! ### truth of lists and tuples -/
theorem ct_truL {e : Expr} {m : M (List α)} (h : CE c e Γ L m) (he : ∀ whole, isTrue e c.X.env whole = (do let v ← whole; standAt e.pos; holding [v] (truthy v)) := by intro _; rfl) : CT c e Γ L (m.bind fun xs => .ok (!xs.isEmpty)) := fun B G0 G H σ Q s p => by
  refine wpT_of (pt_truth pe_wp he) ?_
  refine h.then (P := PstT c G H σ Q) s p (fun z => z) (fun e z => z) fun x v G1 H1 p e1 s1 r1 => ?_
  obtain ⟨a, vs, rfl, hl, ha, hn⟩ := rp_lst r1
  have e : vs.isEmpty = x.isEmpty := by
    cases vs <;> cases x <;> simp_all
  exact ⟨_, .inl ⟨vs, s1.gh.sl hl, rfl⟩, by rw [e]; exact p G1 H1 e1⟩
theorem ct_truT {e : Expr} {m : M (Tup α)} (h : CE c e Γ L m) (he : ∀ whole, isTrue e c.X.env whole = (do let v ← whole; standAt e.pos; holding [v] (truthy v)) := by intro _; rfl) : CT c e Γ L (m.bind fun xs => .ok (!xs.l.isEmpty)) := fun B G0 G H σ Q s p => by
  refine wpT_of (pt_truth pe_wp he) ?_
  refine h.then (P := PstT c G H σ Q) s p (fun z => z) (fun e z => z) fun x v G1 H1 p e1 s1 r1 => ?_
  obtain ⟨a, vs, rfl, hl, ha, hn⟩ := rp_tup r1
  have e : vs.isEmpty = x.l.isEmpty := by
    obtain ⟨l⟩ := x
    cases vs <;> cases l <;> simp_all
  exact ⟨_, .inr (.inl ⟨vs, s1.gh.st hl, rfl⟩), by rw [e]; exact p G1 H1 e1⟩
theorem ct_truI {e : Expr} {m : M Int} (h : CE c e Γ L m) (he : ∀ whole, isTrue e c.X.env whole = (do let v ← whole; standAt e.pos; holding [v] (truthy v)) := by intro _; rfl) : CT c e Γ L (m.bind fun x => .ok (x != 0)) := fun B G0 G H σ Q s p => by
  refine wpT_of (pt_truth pe_wp he) ?_
  refine h.then (P := PstT c G H σ Q) s p (fun z => z) (fun e z => z) fun x v G1 H1 p e1 s1 r1 => ?_
  cases r1
  exact ⟨_, rfl, p G1 H1 e1⟩
/-! ### displays -/
def CALS (c : Cfg) (es : List Expr) (Γ : Fm) (L : Led) (m : M (List α)) : Prop := CAL c es Γ L m ∧ ∀ xs, m = .ok xs → xs.length = es.length
theorem cals_nil : CALS c [] Γ L (.ok ([] : List α)) := ⟨cal_nil, fun xs h => by cases h; rfl⟩
theorem cals_cons {e : Expr} {es : List Expr} {m : M α} {mr : M (List α)} (he : CE c e Γ L m) (hr : CALS c es Γ L mr) (hs : starEach (e :: es) c.X.env = (false, eval e c.X.env) :: starEach es c.X.env := by rfl) :
    CALS c (e :: es) Γ L (m.bind fun x => mr.bind fun xs => .ok (x :: xs)) := ⟨cal_cons he hr.1 hs, fun xs h => by
  cases m with
  | stuck => cases h
  | raise e => cases h
  | ok x =>
    cases mr with
    | stuck => cases h
    | raise e => cases h
    | ok ys =>
      cases h
      exact congrArg (· + 1) (hr.2 ys rfl)⟩
def CALP (c : Cfg) (es : List Expr) (Γ : Fm) (L : Led) (xs : List α) : Prop := CALS c es Γ L (.ok xs)
theorem calp_nil : CALP c [] Γ L ([] : List α) := cals_nil
theorem calp_cons {e : Expr} {es : List Expr} {x : α} {xs : List α} (he : CE c e Γ L (.ok x)) (hr : CALP c es Γ L xs) (hs : starEach (e :: es) c.X.env = (false, eval e c.X.env) :: starEach es c.X.env := by rfl) : CALP c (e :: es) Γ L (x :: xs) := cals_cons he hr hs
theorem calp_str {z : Str} {j pos} {es : List Expr} {xs : List Str} (hr : CALP c es Γ L xs) : CALP c (.Constant (.str z) j pos :: es) Γ L (z :: xs) := cals_cons ce_str hr
theorem calp_int {z : Int} {j pos} {es : List Expr} {xs : List Int} (hr : CALP c es Γ L xs) : CALP c (.Constant (.int z) j pos :: es) Γ L (z :: xs) := cals_cons ce_int hr
theorem cn_lstS {es : List Expr} {pos : Pos} {m : M (List α)} (h : CALS c es Γ L m) (hl : es.length ≤ 1000 := by decide) : CN c (.List es pos) Γ L m := cn_lst h.1 fun xs e => by rw [h.2 xs e]; exact hl
theorem ce_tupLS {es : List Expr} {x1} {pos : Pos} {m : M (List α)} (h : CALS c es Γ L m) (hl : es.length ≤ 1000 := by decide) : CE c (.Tuple es x1 pos) Γ L (m.bind fun xs => .ok (Tup.mk xs)) := ce_tupL h.1 fun xs e => by rw [h.2 xs e]; exact hl
theorem cn_lstP {es : List Expr} {pos : Pos} {xs : List α} (h : CALP c es Γ L xs) (hl : es.length ≤ 1000 := by decide) : CN c (.List es pos) Γ L (.ok xs) := cn_lstS h hl
theorem ce_tupLP {es : List Expr} {x1} {pos : Pos} {xs : List α} (h : CALP c es Γ L xs) (hl : es.length ≤ 1000 := by decide) : CE c (.Tuple es x1 pos) Γ L (.ok (Tup.mk xs)) := ce_tupLS h hl
/-! ### isinstance -/
class TyN (α : Type) [Enc α] where
  n : String
  ok : ∀ (K : PySem.W.Frag) (cA : Str → Addr) (G H : Hp) (v : V) (x : α), Sub G H → Rp K cA G v (enc x) → TyX K H v (.type n)
theorem tyx_lst {K : PySem.W.Frag} {H : Hp} {a : Addr} {vs : List V} (h : SqL K H a vs) : TyX K H (.ref a) (.type "list") := by
  rcases h with (h | ⟨o, h⟩) | ⟨o, its, n, h, hc, _⟩
  · exact .base (.lst h)
  · exact .base (.frz h)
  · exact .kList h hc
instance : TyN (List α) := ⟨"list", fun K cA G H v x s r => by
  obtain ⟨a, vs, rfl, hl, _⟩ := rp_lst r
  exact tyx_lst (s.sl hl)⟩
instance : TyN Bool := ⟨"bool", fun K cA G H v x s r => by cases r; exact .base (.bl _)⟩
instance : TyN Int := ⟨"int", fun K cA G H v x s r => by cases r; exact .base (.int _)⟩
instance : TyN Str := ⟨"str", fun K cA G H v x s r => by cases r; exact .base (.str _)⟩
theorem ce_isi [TyN α] {e : Expr} {m : M α} {T : Str} {p q pos : Pos} {n : String} (he : CE c e Γ L m) (hk : kitB (TyN.n α) n = some true) (hg : Gl c.X "isinstance") (hm : c.X.mg "isinstance" = none) (hg2 : Gl c.X T) (hm2 : c.X.mg T = none) (hv : bootBuiltins T = some (.type n)) (hv0 : bootBuiltins "isinstance" = some (.builtin "isinstance") := by decide +kernel)
    (hn : T ≠ "__name__" := by decide) (hd : (T == ("__debug__" : Str)) = false := by decide)
    (s1 : starEach [e, .Name T q] c.X.env = (false, eval e c.X.env) :: starEach [.Name T q] c.X.env := by rfl) (s2 : starEach [.Name T q] c.X.env = (false, eval (.Name T q) c.X.env) :: starEach [] c.X.env := by rfl)
    (hpl : (backTo pos (starEach [.Name T q] c.X.env)).any (·.1) = false := by rfl) :
    CE c (.Call (.Name "isinstance" p) [e, .Name T q] [] pos) Γ L (m.bind fun _ => .ok true) := fun B G0 G H σ Q s pp => by
  refine wpE_of (pe_callB call_isi hg hm hv0 (pa_cons pe_wp (pa_cons (pe_bltn (v := .ty n) hg2 hm2 hv rfl hn hd) pa_nil s2) s1) (by decide) (by decide) s1 hpl) ?_
  refine he.then (P := Pst c G H σ Q) s pp (fun z => z) (fun e z => z) fun x v G1 H1 pp e1 s1 r1 => ?_
  exact ⟨v, .ty n, _, _, true, rfl, .ty n, TyN.ok c.K c.cA G1 H1 v x s1.gh r1, kit_ty hk, pp _ G1 H1 e1 (.bl true)⟩
/-! ### unpacking -/
theorem cs_swap2 {i j : Nat} {x y : Str} {a b : Expr} {px py pt pos : Pos} {kt k2 pt2} {ma : M α} {mb : M β} {k : α → β → M O} (ha : CE c a Γ L ma) (hb : CE c b Γ L mb) (hr : ∀ v w, CS c xf xl rest ((Γ.set i (some (enc v))).set j (some (enc w))) L κ (k v w)) (nd : c.X.N.Nodup)
    (hij : i ≠ j) (hw : swappedStores [.Tuple [.Name x px, .Name y py] kt pt] (.Tuple [a, b] k2 pt2) c.X.env = pure (some [x, y])) (hi : c.X.N[i]? = some x := by rfl) (hj : c.X.N[j]? = some y := by rfl)
    (hx1 : c.X.env.scope.names.lookup x = some .local := by rfl) (hy : c.X.env.scope.names.lookup y = some .local := by rfl) (hc : c.X.calm = true := by rfl)
    (hs : swapsWithSole [.Tuple [.Name x px, .Name y py] kt pt] (.Tuple [a, b] k2 pt2) pos.line c.X.env = pure false := by rfl) (hx : Wk Γ L xf xl := by exact wk_no rfl)
    (s1 : starEach [a, b] c.X.env = (false, eval a c.X.env) :: starEach [b] c.X.env := by rfl) (s2 : starEach [b] c.X.env = (false, eval b c.X.env) :: starEach [] c.X.env := by rfl) :
    CS c xf xl (.Assign [.Tuple [.Name x px, .Name y py] kt pt] (.Tuple [a, b] k2 pt2) pos :: rest) Γ L κ (ma.bind fun v => mb.bind fun w => k v w) := fun B G0 G H σ D s p => by
  refine wpSs_of (pss_cons (ps_par hc nd hi hj hij hx1 hy (pa_cons pe_wp (pa_cons pe_wp pa_nil s2) s1) hw hs) pss_wp) ?_
  refine ha.then (P := PstS c B G0 xf xl D κ) s p (fun z => z) (fun e z => z.raise s hx) fun v v' G1 H1 p e1 s1 r1 => ?_
  refine hb.then (P := PstS c B G0 xf xl D κ) s1 p (fun z => z) (fun e z => z.raise s1 hx) fun w w' G2 H2 p e2 s2 r2 => ?_
  exact ⟨v', w', rfl, hr v w B G0 G2 H2 _ D ((s2.set (i := i) (r1.mono e2.g)).set (i := j) r2) p⟩
theorem cs_unp {tg e : Expr} {pos : Pos} {m : M α} {k : α → M O} {f : α → Fm → Fm} {ws : List Nat} (he : CE c e Γ L m) (hg : CG c tg f ws) (hr : ∀ y, CS c xf xl rest (f y Γ) L κ (k y)) (hs : swapsWithSole [tg] e pos.line c.X.env = pure false := by rfl) (hw : swappedStores [tg] e c.X.env = pure none := by rfl)
    (h1 : (assignEach [tg] c.X.env).map (·.2) = [assign tg c.X.env] := by rfl) (hx : Wk Γ L xf xl := by exact wk_no rfl) : CS c xf xl (.Assign [tg] e pos :: rest) Γ L κ (m.bind k) := fun B G0 G H σ D s p => by
  refine wpSs_of (pss_cons (ps_asg pe_wp pg_wp hs hw h1) pss_wp) ?_
  refine he.then (P := PstS c B G0 xf xl D κ) s p (fun z => z) (fun e z => z.raise s hx) fun y v G1 H1 p e1 s1 r1 => ?_
  exact hg B G0 G1 H1 σ Γ L v y _ s1 r1 fun σ' s2 _ => hr y B G0 G1 H1 σ' D s2 p
end

/-! ### tables of the module: text keys, ints -/
def TabOk (K : PySem.W.Frag) (w : World) (d : Addr) (kvs : List (Str × Int)) : Prop :=
  (∃ es n, KDict K w d es n) ∧ ∀ z, ∃ r, PySem.W.nsIn K d z = some r ∧ match kvs.lookup z with
    | some i => ∃ u, r = some u ∧ RelV (.int i) u
    | none => r = none
def TabI (w : World) (K : PySem.W.Frag) (mg : Str → Option Value) (x : Str) (kvs : List (Str × Int)) : Prop := ∃ d, mg x = some (.ref d) ∧ TabOk K w d kvs
structure TabV (K : PySem.W.Frag) (w : World) where
  d : Addr
  kvs : List (Str × Int)
  ok : TabOk K w d kvs
instance {K : PySem.W.Frag} {w : World} : Enc (TabV K w) := ⟨fun t => .own t.d⟩
section
variable {c : Cfg} {Γ : Fm} {L : Led}
theorem ce_tab {x : Str} {pos : Pos} {kvs : List (Str × Int)} (h : TabI c.X.w c.X.K c.X.mg x kvs) (hg : Gl c.X x := by rfl) (hd : (x == ("__debug__" : Str)) = false := by decide) : CE c (.Name x pos) Γ L (.ok (TabV.mk h.choose kvs h.choose_spec.2)) :=
  ce_glob h.choose_spec.1 (v := .ref h.choose) rfl (fun G => .own _) hg hd
theorem lookup_any {kvs : List (Str × Int)} {z : Str} : (kvs.lookup z).isSome = kvs.any fun q => decide (q.1 = z) := by
  induction kvs with
  | nil => rfl
  | cons q r ih =>
    obtain ⟨k, v⟩ := q
    by_cases h : z = k
    · subst h; simp
    · simp [List.lookup_cons, h, ih, Ne.symm h, show (z == k) = false by simpa using h, show ¬ k = z from fun e => h e.symm]
theorem bop_inTab {x : Str} {t : TabV c.X.K c.X.w} : BOp c (compareOp .In) x t (.ok (t.kvs.any fun q => decide (q.1 = x))) := fun G H σ v u Q s r1 r2 p => by
  cases r1
  cases r2
  obtain ⟨⟨es, n, D⟩, h⟩ := t.ok
  obtain ⟨r, e, m⟩ := h x
  refine wpO_of (op_in_kd D) ⟨x, r, rfl, rfl, e, ?_⟩
  rw [← lookup_any] at p
  have : r.isSome = (t.kvs.lookup x).isSome := by
    cases q : t.kvs.lookup x with
    | none => rw [q] at m; subst m; rfl
    | some i => rw [q] at m; obtain ⟨u, rfl, _⟩ := m; rfl
  rw [this]
  exact p _ G H (Ext.refl s) (.bl _)
theorem bop_niTab {x : Str} {t : TabV c.X.K c.X.w} : BOp c (compareOp .NotIn) x t (.ok (!t.kvs.any fun q => decide (q.1 = x))) := fun G H σ v u Q s r1 r2 p => by
  cases r1
  cases r2
  obtain ⟨⟨es, n, D⟩, h⟩ := t.ok
  obtain ⟨r, e, m⟩ := h x
  refine wpO_of (op_notIn_kd D) ⟨x, r, rfl, rfl, e, ?_⟩
  rw [← lookup_any] at p
  have : r.isSome = (t.kvs.lookup x).isSome := by
    cases q : t.kvs.lookup x with
    | none => rw [q] at m; subst m; rfl
    | some i => rw [q] at m; obtain ⟨u, rfl, _⟩ := m; rfl
  rw [this]
  exact p _ G H (Ext.refl s) (.bl _)
end
/-- the check of a table at a hook -/
def entsB : List DictEntry → List (Str × Int) → Bool
  | [], [] => true
  | e :: es, q :: qs => (match e.key with
    | .str x _ => decide (x = q.1)
    | _ => false) && He.relB (.int q.2) e.val && entsB es qs
  | _, _ => false
def tabChk (K : PySem.W.Frag) (a : Addr) (kvs : List (Str × Int)) : Bool := match K.lookup a with
  | some ⟨_, _, .dict es _, _⟩ => entsB es.toList kvs
  | _ => false
theorem entsB_ref : ∀ {es : List DictEntry} {kvs : List (Str × Int)}, entsB es kvs = true → es.any (·.refKey) = false
  | [], [], _ => rfl
  | [], _ :: _, h => by cases h
  | _ :: _, [], h => by cases h
  | e :: es, q :: qs, h => by
    unfold entsB at h
    rw [Bool.and_eq_true, Bool.and_eq_true] at h
    rw [List.any_cons, entsB_ref h.2, Bool.or_false]
    obtain ⟨hh, k, v⟩ := e
    unfold DictEntry.refKey
    cases k <;> first | rfl | (have := h.1.1; cases this)
theorem entsB_find : ∀ {es : List DictEntry} {kvs : List (Str × Int)}, entsB es kvs = true → ∀ z : Str, match kvs.lookup z with
    | some i => ∃ e, es.find? (fun e => e.key.isStr z) = some e ∧ RelV (.int i) e.val
    | none => es.find? (fun e => e.key.isStr z) = none
  | [], [], _, _ => rfl
  | [], _ :: _, h, _ => by cases h
  | _ :: _, [], h, _ => by cases h
  | e :: es, (k, i) :: qs, h, z => by
    unfold entsB at h
    rw [Bool.and_eq_true, Bool.and_eq_true] at h
    have ih := entsB_find h.2 z
    obtain ⟨hh, kv, v⟩ := e
    cases kv with
    | str x t =>
      have hx : x = k := of_decide_eq_true h.1.1
      subst hx
      rw [List.lookup_cons, List.find?_cons]
      have e1 : (Value.str x t).isStr z = (x == z) := rfl
      show match (match z == x with | true => some i | false => qs.lookup z) with
        | some i => ∃ e, (match (Value.str x t).isStr z with | true => some _ | false => es.find? _) = some e ∧ _
        | none => (match (Value.str x t).isStr z with | true => some _ | false => es.find? _) = none
      rw [e1]
      by_cases q : z = x
      · subst q
        simp only [beq_self_eq_true]
        exact ⟨_, rfl, He.relB_ok h.1.2⟩
      · have q1 : (z == x) = false := by simpa using q
        have q2 : (x == z) = false := by simpa using (fun e : x = z => q e.symm)
        simp only [q1, q2]
        exact ih
    | _ => have := h.1.1; cases this
theorem tabOk_of {K : PySem.W.Frag} {w : World} {d : Addr} {kvs : List (Str × Int)} (h1 : ∃ es n, KDict K w d es n) (h2 : tabChk K d kvs = true) : TabOk K w d kvs := by
  refine ⟨h1, fun z => ?_⟩
  obtain ⟨es, n, D⟩ := h1
  unfold tabChk at h2
  rw [D.at_] at h2
  have f := entsB_find h2 z
  have g := entsB_ref h2
  unfold PySem.W.nsIn
  rw [D.at_]
  cases q : kvs.lookup z with
  | none =>
    rw [q] at f
    refine ⟨none, ?_, rfl⟩
    show (match es.toList.find? (·.key.isStr z) with | some e => some (some e.val) | none => if es.toList.any (·.refKey) then none else some none) = some none
    rw [f]
    show (if es.toList.any (·.refKey) then none else some none) = some none
    rw [g]; rfl
  | some i =>
    rw [q] at f
    obtain ⟨e, f1, f2⟩ := f
    refine ⟨some e.val, ?_, _, rfl, f2⟩
    show (match es.toList.find? (·.key.isStr z) with | some e => some (some e.val) | none => if es.toList.any (·.refKey) then none else some none) = some (some e.val)
    rw [f1]
end Pf

/-! P11: tables read, fresh results. (printed by gen11.py) -/
namespace Pf
open PySem PySem.Spec L2
open PyProof.Rows hiding St
open M (need some!)
section
variable {c : Cfg} {Γ xf : Fm} {L L' xl : Led} {α β γ O : Type} [Enc α] [Enc β] [Enc γ] {κ : O → Outc} {rest : List Stmt}
theorem xop_tab {t : TabV c.X.K c.X.w} {x : Str} : XOp c t x (some! (t.kvs.lookup x)) := fun G H σ v u Q s r1 r2 p => by
  cases r1
  cases r2
  obtain ⟨i, e, p⟩ := Pst.some! p
  obtain ⟨⟨es, n, D⟩, h⟩ := t.ok
  obtain ⟨r, hr, m⟩ := h x
  rw [e] at m
  obtain ⟨u, rfl, ru⟩ := m
  exact wpX_of ix_kdict ⟨t.d, x, .int i, rfl, rfl, ⟨es, n, u, D.at_, D.lit, hr, ru⟩, p _ G H (Ext.refl s) (.int i)⟩
/-! ### a fresh list is returned -/
/-- return x, x a mutable list: it stays mutable -/
theorem cs_retO {i j : Nat} {x : Str} {pos pos' : Pos} {a : Addr} {xs : List α} {o : O} (hi : Γ[i]? = some (some (.own a))) (hj : L[j]? = some (a, .lst (encL xs))) (hk : κ o = .rtn (.lst (encL xs)) []) (hN : c.X.N[i]? = some x := by rfl)
    (hv : Vis c.X.env.scope x := by first | exact Or.inl rfl | exact Or.inr (Or.inl rfl) | exact Or.inr (Or.inr rfl)) (hd : (x == ("__debug__" : Str)) = false := by decide) (hcd : (x == ("__classdict__" : Str)) = false := by decide) :
    CS c xf xl (.Return (some (.Name x pos')) pos :: rest) Γ L κ (.ok o) := fun B G0 G H σ D s p => by
  have p : Dlv c B G0 D (κ o) := p
  rw [hk] at p
  obtain ⟨v, hσ, r⟩ := s.slot i _ hi
  cases r
  have mem : (a, Cell.lst (encL xs)) ∈ L := List.mem_iff_getElem?.mpr ⟨j, hj⟩
  refine wpSs_of (pss_cons (ps_ret (pe_var hN hv hd hcd)) pss_wp) ⟨.ref a, hσ, ?_⟩
  exact p a G H σ Γ (s.wk ⟨rfl, fun _ _ h => h, List.singleton_sublist.mpr mem⟩)
/-- return e, e a fresh list -/
theorem cs_retCN {e : Expr} {pos : Pos} {m : M (List α)} {f : List α → O} (he : CN c e Γ L m) (hk : ∀ xs, κ (f xs) = .rtn (.lst (encL xs)) []) (hx : Wk Γ L xf xl := by exact wk_no rfl) :
    CS c xf xl (.Return (some e) pos :: rest) Γ L κ (m.bind fun x => .ok (f x)) := fun B G0 G H σ D s p => by
  refine wpSs_of (pss_cons (ps_ret pe_wp) pss_wp) ?_
  cases m with
  | stuck => exact p.elim
  | raise z => exact he B G0 G H σ _ s (PstS.raiseN s hx p)
  | ok ys =>
    have p : Dlv c B G0 D (κ (f ys)) := p
    rw [hk ys] at p
    refine he B G0 G H σ _ s fun a vs G' H' e n g ha r => ?_
    exact p a G' H' σ Γ ((stt_newList s e n g ha r).wk ⟨rfl, fun _ _ h => h, List.singleton_sublist.mpr List.mem_cons_self⟩)
end
def encC {β : Type} [Enc β] (m : M (List β)) : M Cell := m.bind fun z => .ok (.lst (encL z))
def PstC (K : PySem.W.Frag) (cA : Str → Addr) (G H : Hp) (Q : VK) (E : XK) : M Cell → Prop
  | .stuck => False
  | .ok c => ∀ p G' H', Ext G H G' H' → H p = none → G' p = none → CellOk K cA G' H' p c → Q (.ref p) H'
  | .raise e => ∀ cls d G' H', Ext G H G' H' → ErrR K cA G' H' e cls d → E cls d H'
/-- called with data ds such that R ds m, it comes to m, a fresh object -/
def SpN (K : PySem.W.Frag) (cA : Str → Addr) (R : List D → M Cell → Prop) : Sp := fun vs H Q E => ∃ G ds m, R ds m ∧ Sub G H ∧ RpAll K cA G vs ds ∧ PstC K cA G H Q E m
theorem pstC_of {c : Cfg} {G H : Hp} {σ : L2.St} {Q : VK} {β : Type} [Enc β] {m : M (List β)} (p : PstN c G H σ Q m) : PstC c.K c.cA G H Q (WE c.W σ) (encC m) := by
  cases m with
  | stuck => exact p
  | ok z =>
    intro q G' H' e n g h
    obtain ⟨vs, h1, h2⟩ := h
    exact p q vs G' H' e n g h1 h2
  | raise e => exact p
section
variable {P : Program} {w : World} {K : PySem.W.Frag} {mg : Str → Option Value} {base : Heap} {x qual : Str} {params : Arguments} {body : List Stmt} {scope : Scope} {dvs : List V} {kws : List (Str × V)} {f : Addr} {fd : FuncData}
theorem fn_okN {cA : Str → Addr} {N ps : List Str} {k : Nat} {R : List D → M Cell → Prop} (F : FunD K x qual params body scope dvs kws f fd) (S : FnScope N ps scope) (hR : ∀ ds m, R ds m → ds.length = ps.length)
    (h : ∀ (cdv : Value) (A : Around) (outer : List Env) (s : Shared) (H : Hp) (E : XK), Room k (A.deeper (envOfC qual scope s.heap.objs.size f cdv)) → ∀ ds m, R ds m →
      CS (cfgOf cA P w K mg base N qual scope f cdv A outer s H E) (noFm N.length) [] body (inFm N ds) [] (fun d => .rtn d []) m) : FnOk P w K mg base (L2.CX P w) (k + 1) f fd ps (SpN K cA R) := by
  refine F.ok S (fun vs H Q E h => ?_) (fun cdv A outer s H vs Q E hr hsp => ⟨wpSs _ body, pss_wp, ?_⟩)
  · obtain ⟨G, ds, m, r, _, rp, _⟩ := h
    rw [rp.length, hR ds m r]
  · obtain ⟨G, ds, m, r, sg, rp, p⟩ := hsp
    refine h cdv A outer s H E hr ds m r H G G H (L2.start N vs) { nx := fun _ H' => Q .non H', rt := Q } (stt_start sg rp) ?_
    cases m with
    | stuck => exact p
    | raise e => exact fun cls d G' H' σ' s r => p cls d G' H' ⟨s.g0, s.gh, s.bh, s.bg⟩ r
    | ok d =>
      intro a G' H' σ Γ s
      obtain ⟨q1, q2, q3⟩ := s.cell a d List.mem_cons_self
      exact p a G' H' ⟨s.g0, s.gh, s.bh, s.bg⟩ q2 q1 q3
theorem cs_encC {O : Type} [Enc O] {c : Cfg} {xf Γ : Fm} {xl L : Led} {sts : List Stmt} {m : M (List O)} (h : CS c xf xl sts Γ L (fun z => .rtn (.lst (encL z)) []) m) : CS c xf xl sts Γ L (fun d => .rtn d []) (encC m) := fun B G0 G H σ D s p => h B G0 G H σ D s (by
  cases m with
  | stuck => exact p
  | raise e => exact p
  | ok z => exact p)
end
section
def Nv0 {β : Type}  [Enc β] (f : M (List β)) : List D → M Cell → Prop := fun ds m => ds = [] ∧ m = encC f
def Nv1 {t1 β : Type} [Enc t1] [Enc β] (f : t1 → M (List β)) : List D → M Cell → Prop := fun ds m => ∃ x1, ds = [enc x1] ∧ m = encC (f x1)
def Nv2 {t1 t2 β : Type} [Enc t1] [Enc t2] [Enc β] (f : t1 → t2 → M (List β)) : List D → M Cell → Prop := fun ds m => ∃ x1 x2, ds = [enc x1, enc x2] ∧ m = encC (f x1 x2)
def Nv3 {t1 t2 t3 β : Type} [Enc t1] [Enc t2] [Enc t3] [Enc β] (f : t1 → t2 → t3 → M (List β)) : List D → M Cell → Prop := fun ds m => ∃ x1 x2 x3, ds = [enc x1, enc x2, enc x3] ∧ m = encC (f x1 x2 x3)
def Nv4 {t1 t2 t3 t4 β : Type} [Enc t1] [Enc t2] [Enc t3] [Enc t4] [Enc β] (f : t1 → t2 → t3 → t4 → M (List β)) : List D → M Cell → Prop := fun ds m => ∃ x1 x2 x3 x4, ds = [enc x1, enc x2, enc x3, enc x4] ∧ m = encC (f x1 x2 x3 x4)
def Nv5 {t1 t2 t3 t4 t5 β : Type} [Enc t1] [Enc t2] [Enc t3] [Enc t4] [Enc t5] [Enc β] (f : t1 → t2 → t3 → t4 → t5 → M (List β)) : List D → M Cell → Prop := fun ds m => ∃ x1 x2 x3 x4 x5, ds = [enc x1, enc x2, enc x3, enc x4, enc x5] ∧ m = encC (f x1 x2 x3 x4 x5)
def Nv6 {t1 t2 t3 t4 t5 t6 β : Type} [Enc t1] [Enc t2] [Enc t3] [Enc t4] [Enc t5] [Enc t6] [Enc β] (f : t1 → t2 → t3 → t4 → t5 → t6 → M (List β)) : List D → M Cell → Prop := fun ds m => ∃ x1 x2 x3 x4 x5 x6, ds = [enc x1, enc x2, enc x3, enc x4, enc x5, enc x6] ∧ m = encC (f x1 x2 x3 x4 x5 x6)
def Nv7 {t1 t2 t3 t4 t5 t6 t7 β : Type} [Enc t1] [Enc t2] [Enc t3] [Enc t4] [Enc t5] [Enc t6] [Enc t7] [Enc β] (f : t1 → t2 → t3 → t4 → t5 → t6 → t7 → M (List β)) : List D → M Cell → Prop := fun ds m => ∃ x1 x2 x3 x4 x5 x6 x7, ds = [enc x1, enc x2, enc x3, enc x4, enc x5, enc x6, enc x7] ∧ m = encC (f x1 x2 x3 x4 x5 x6 x7)
def Nv8 {t1 t2 t3 t4 t5 t6 t7 t8 β : Type} [Enc t1] [Enc t2] [Enc t3] [Enc t4] [Enc t5] [Enc t6] [Enc t7] [Enc t8] [Enc β] (f : t1 → t2 → t3 → t4 → t5 → t6 → t7 → t8 → M (List β)) : List D → M Cell → Prop := fun ds m => ∃ x1 x2 x3 x4 x5 x6 x7 x8, ds = [enc x1, enc x2, enc x3, enc x4, enc x5, enc x6, enc x7, enc x8] ∧ m = encC (f x1 x2 x3 x4 x5 x6 x7 x8)
end
section
variable {P : Program} {w : World} {K : PySem.W.Frag} {mg : Str → Option Value} {base : Heap} {x qual : Str} {params : Arguments} {body : List Stmt} {scope : Scope} {dvs : List V} {kws : List (Str × V)} {f : Addr} {fd : FuncData} {cA : Str → Addr} {N ps : List Str} {k : Nat}
theorem fn_okN0 {β : Type}  [Enc β] {g : M (List β)} (F : FunD K x qual params body scope dvs kws f fd) (S : FnScope N ps scope) (hn : ps.length = 0)
    (h : ∀ (cdv : Value) (A : Around) (outer : List Env) (s : Shared) (H : Hp) (E : XK), Room k (A.deeper (envOfC qual scope s.heap.objs.size f cdv)) → 
      CS (cfgOf cA P w K mg base N qual scope f cdv A outer s H E) (noFm N.length) [] body (inFm N []) [] (fun z => .rtn (.lst (encL z)) []) g) : FnOk P w K mg base (L2.CX P w) (k + 1) f fd ps (SpN K cA (Nv0 g)) := by
  refine fn_okN F S (fun ds m r => ?_) fun cdv A outer s H E hr ds m r => ?_
  · obtain ⟨rfl, rfl⟩ := r
    rw [hn]; rfl
  · obtain ⟨rfl, rfl⟩ := r
    exact cs_encC (h cdv A outer s H E hr)
theorem fn_okN1 {t1 β : Type} [Enc t1] [Enc β] {g : t1 → M (List β)} (F : FunD K x qual params body scope dvs kws f fd) (S : FnScope N ps scope) (hn : ps.length = 1)
    (h : ∀ (cdv : Value) (A : Around) (outer : List Env) (s : Shared) (H : Hp) (E : XK), Room k (A.deeper (envOfC qual scope s.heap.objs.size f cdv)) → ∀ (x1 : t1), 
      CS (cfgOf cA P w K mg base N qual scope f cdv A outer s H E) (noFm N.length) [] body (inFm N [enc x1]) [] (fun z => .rtn (.lst (encL z)) []) (g x1)) : FnOk P w K mg base (L2.CX P w) (k + 1) f fd ps (SpN K cA (Nv1 g)) := by
  refine fn_okN F S (fun ds m r => ?_) fun cdv A outer s H E hr ds m r => ?_
  · obtain ⟨x1, rfl, rfl⟩ := r
    rw [hn]; rfl
  · obtain ⟨x1, rfl, rfl⟩ := r
    exact cs_encC (h cdv A outer s H E hr x1)
theorem fn_okN2 {t1 t2 β : Type} [Enc t1] [Enc t2] [Enc β] {g : t1 → t2 → M (List β)} (F : FunD K x qual params body scope dvs kws f fd) (S : FnScope N ps scope) (hn : ps.length = 2)
    (h : ∀ (cdv : Value) (A : Around) (outer : List Env) (s : Shared) (H : Hp) (E : XK), Room k (A.deeper (envOfC qual scope s.heap.objs.size f cdv)) → ∀ (x1 : t1), ∀ (x2 : t2), 
      CS (cfgOf cA P w K mg base N qual scope f cdv A outer s H E) (noFm N.length) [] body (inFm N [enc x1, enc x2]) [] (fun z => .rtn (.lst (encL z)) []) (g x1 x2)) : FnOk P w K mg base (L2.CX P w) (k + 1) f fd ps (SpN K cA (Nv2 g)) := by
  refine fn_okN F S (fun ds m r => ?_) fun cdv A outer s H E hr ds m r => ?_
  · obtain ⟨x1, x2, rfl, rfl⟩ := r
    rw [hn]; rfl
  · obtain ⟨x1, x2, rfl, rfl⟩ := r
    exact cs_encC (h cdv A outer s H E hr x1 x2)
theorem fn_okN3 {t1 t2 t3 β : Type} [Enc t1] [Enc t2] [Enc t3] [Enc β] {g : t1 → t2 → t3 → M (List β)} (F : FunD K x qual params body scope dvs kws f fd) (S : FnScope N ps scope) (hn : ps.length = 3)
    (h : ∀ (cdv : Value) (A : Around) (outer : List Env) (s : Shared) (H : Hp) (E : XK), Room k (A.deeper (envOfC qual scope s.heap.objs.size f cdv)) → ∀ (x1 : t1), ∀ (x2 : t2), ∀ (x3 : t3), 
      CS (cfgOf cA P w K mg base N qual scope f cdv A outer s H E) (noFm N.length) [] body (inFm N [enc x1, enc x2, enc x3]) [] (fun z => .rtn (.lst (encL z)) []) (g x1 x2 x3)) : FnOk P w K mg base (L2.CX P w) (k + 1) f fd ps (SpN K cA (Nv3 g)) := by
  refine fn_okN F S (fun ds m r => ?_) fun cdv A outer s H E hr ds m r => ?_
  · obtain ⟨x1, x2, x3, rfl, rfl⟩ := r
    rw [hn]; rfl
  · obtain ⟨x1, x2, x3, rfl, rfl⟩ := r
    exact cs_encC (h cdv A outer s H E hr x1 x2 x3)
theorem fn_okN4 {t1 t2 t3 t4 β : Type} [Enc t1] [Enc t2] [Enc t3] [Enc t4] [Enc β] {g : t1 → t2 → t3 → t4 → M (List β)} (F : FunD K x qual params body scope dvs kws f fd) (S : FnScope N ps scope) (hn : ps.length = 4)
    (h : ∀ (cdv : Value) (A : Around) (outer : List Env) (s : Shared) (H : Hp) (E : XK), Room k (A.deeper (envOfC qual scope s.heap.objs.size f cdv)) → ∀ (x1 : t1), ∀ (x2 : t2), ∀ (x3 : t3), ∀ (x4 : t4), 
      CS (cfgOf cA P w K mg base N qual scope f cdv A outer s H E) (noFm N.length) [] body (inFm N [enc x1, enc x2, enc x3, enc x4]) [] (fun z => .rtn (.lst (encL z)) []) (g x1 x2 x3 x4)) : FnOk P w K mg base (L2.CX P w) (k + 1) f fd ps (SpN K cA (Nv4 g)) := by
  refine fn_okN F S (fun ds m r => ?_) fun cdv A outer s H E hr ds m r => ?_
  · obtain ⟨x1, x2, x3, x4, rfl, rfl⟩ := r
    rw [hn]; rfl
  · obtain ⟨x1, x2, x3, x4, rfl, rfl⟩ := r
    exact cs_encC (h cdv A outer s H E hr x1 x2 x3 x4)
theorem fn_okN5 {t1 t2 t3 t4 t5 β : Type} [Enc t1] [Enc t2] [Enc t3] [Enc t4] [Enc t5] [Enc β] {g : t1 → t2 → t3 → t4 → t5 → M (List β)} (F : FunD K x qual params body scope dvs kws f fd) (S : FnScope N ps scope) (hn : ps.length = 5)
    (h : ∀ (cdv : Value) (A : Around) (outer : List Env) (s : Shared) (H : Hp) (E : XK), Room k (A.deeper (envOfC qual scope s.heap.objs.size f cdv)) → ∀ (x1 : t1), ∀ (x2 : t2), ∀ (x3 : t3), ∀ (x4 : t4), ∀ (x5 : t5), 
      CS (cfgOf cA P w K mg base N qual scope f cdv A outer s H E) (noFm N.length) [] body (inFm N [enc x1, enc x2, enc x3, enc x4, enc x5]) [] (fun z => .rtn (.lst (encL z)) []) (g x1 x2 x3 x4 x5)) : FnOk P w K mg base (L2.CX P w) (k + 1) f fd ps (SpN K cA (Nv5 g)) := by
  refine fn_okN F S (fun ds m r => ?_) fun cdv A outer s H E hr ds m r => ?_
  · obtain ⟨x1, x2, x3, x4, x5, rfl, rfl⟩ := r
    rw [hn]; rfl
  · obtain ⟨x1, x2, x3, x4, x5, rfl, rfl⟩ := r
    exact cs_encC (h cdv A outer s H E hr x1 x2 x3 x4 x5)
theorem fn_okN6 {t1 t2 t3 t4 t5 t6 β : Type} [Enc t1] [Enc t2] [Enc t3] [Enc t4] [Enc t5] [Enc t6] [Enc β] {g : t1 → t2 → t3 → t4 → t5 → t6 → M (List β)} (F : FunD K x qual params body scope dvs kws f fd) (S : FnScope N ps scope) (hn : ps.length = 6)
    (h : ∀ (cdv : Value) (A : Around) (outer : List Env) (s : Shared) (H : Hp) (E : XK), Room k (A.deeper (envOfC qual scope s.heap.objs.size f cdv)) → ∀ (x1 : t1), ∀ (x2 : t2), ∀ (x3 : t3), ∀ (x4 : t4), ∀ (x5 : t5), ∀ (x6 : t6), 
      CS (cfgOf cA P w K mg base N qual scope f cdv A outer s H E) (noFm N.length) [] body (inFm N [enc x1, enc x2, enc x3, enc x4, enc x5, enc x6]) [] (fun z => .rtn (.lst (encL z)) []) (g x1 x2 x3 x4 x5 x6)) : FnOk P w K mg base (L2.CX P w) (k + 1) f fd ps (SpN K cA (Nv6 g)) := by
  refine fn_okN F S (fun ds m r => ?_) fun cdv A outer s H E hr ds m r => ?_
  · obtain ⟨x1, x2, x3, x4, x5, x6, rfl, rfl⟩ := r
    rw [hn]; rfl
  · obtain ⟨x1, x2, x3, x4, x5, x6, rfl, rfl⟩ := r
    exact cs_encC (h cdv A outer s H E hr x1 x2 x3 x4 x5 x6)
theorem fn_okN7 {t1 t2 t3 t4 t5 t6 t7 β : Type} [Enc t1] [Enc t2] [Enc t3] [Enc t4] [Enc t5] [Enc t6] [Enc t7] [Enc β] {g : t1 → t2 → t3 → t4 → t5 → t6 → t7 → M (List β)} (F : FunD K x qual params body scope dvs kws f fd) (S : FnScope N ps scope) (hn : ps.length = 7)
    (h : ∀ (cdv : Value) (A : Around) (outer : List Env) (s : Shared) (H : Hp) (E : XK), Room k (A.deeper (envOfC qual scope s.heap.objs.size f cdv)) → ∀ (x1 : t1), ∀ (x2 : t2), ∀ (x3 : t3), ∀ (x4 : t4), ∀ (x5 : t5), ∀ (x6 : t6), ∀ (x7 : t7), 
      CS (cfgOf cA P w K mg base N qual scope f cdv A outer s H E) (noFm N.length) [] body (inFm N [enc x1, enc x2, enc x3, enc x4, enc x5, enc x6, enc x7]) [] (fun z => .rtn (.lst (encL z)) []) (g x1 x2 x3 x4 x5 x6 x7)) : FnOk P w K mg base (L2.CX P w) (k + 1) f fd ps (SpN K cA (Nv7 g)) := by
  refine fn_okN F S (fun ds m r => ?_) fun cdv A outer s H E hr ds m r => ?_
  · obtain ⟨x1, x2, x3, x4, x5, x6, x7, rfl, rfl⟩ := r
    rw [hn]; rfl
  · obtain ⟨x1, x2, x3, x4, x5, x6, x7, rfl, rfl⟩ := r
    exact cs_encC (h cdv A outer s H E hr x1 x2 x3 x4 x5 x6 x7)
theorem fn_okN8 {t1 t2 t3 t4 t5 t6 t7 t8 β : Type} [Enc t1] [Enc t2] [Enc t3] [Enc t4] [Enc t5] [Enc t6] [Enc t7] [Enc t8] [Enc β] {g : t1 → t2 → t3 → t4 → t5 → t6 → t7 → t8 → M (List β)} (F : FunD K x qual params body scope dvs kws f fd) (S : FnScope N ps scope) (hn : ps.length = 8)
    (h : ∀ (cdv : Value) (A : Around) (outer : List Env) (s : Shared) (H : Hp) (E : XK), Room k (A.deeper (envOfC qual scope s.heap.objs.size f cdv)) → ∀ (x1 : t1), ∀ (x2 : t2), ∀ (x3 : t3), ∀ (x4 : t4), ∀ (x5 : t5), ∀ (x6 : t6), ∀ (x7 : t7), ∀ (x8 : t8), 
      CS (cfgOf cA P w K mg base N qual scope f cdv A outer s H E) (noFm N.length) [] body (inFm N [enc x1, enc x2, enc x3, enc x4, enc x5, enc x6, enc x7, enc x8]) [] (fun z => .rtn (.lst (encL z)) []) (g x1 x2 x3 x4 x5 x6 x7 x8)) : FnOk P w K mg base (L2.CX P w) (k + 1) f fd ps (SpN K cA (Nv8 g)) := by
  refine fn_okN F S (fun ds m r => ?_) fun cdv A outer s H E hr ds m r => ?_
  · obtain ⟨x1, x2, x3, x4, x5, x6, x7, x8, rfl, rfl⟩ := r
    rw [hn]; rfl
  · obtain ⟨x1, x2, x3, x4, x5, x6, x7, x8, rfl, rfl⟩ := r
    exact cs_encC (h cdv A outer s H E hr x1 x2 x3 x4 x5 x6 x7 x8)
end
/-- the def named x, at f: what it is worth, with what a call needs; a fresh object comes back -/
structure CallableN (P : Program) (w : World) (K : PySem.W.Frag) (mg : Str → Option Value) (base : Heap) (cA : Str → Addr) (k : Nat) (x : Str) (f : Addr) (ps : List Str) (R : List D → M Cell → Prop) : Prop where
  gm : mg x = some (.ref f)
  kp : PySem.W.keepIn K (.ref f) = true
  ok : ∃ fd, FnOk P w K mg base (L2.CX P w) k f fd ps (SpN K cA R) ∧ Binds K fd ps []
section
variable {c : Cfg} {Γ : Fm} {L : Led} {k : Nat} {f : Addr} {ps : List Str} {x : Str} {p pos : Pos}
theorem cn_c1 {t1 β : Type} [Enc t1] [Enc β] {g : t1 → M (List β)} {e1 : Expr} {m1 : M t1} (C : CallableN c.X.prog c.X.w c.X.K c.X.mg c.X.base c.cA k x f ps (Nv1 g)) (hr : Room k c.X.A) (hg : Gl c.X x) (tk : Takes c.X c.W) (h1 : CE c e1 Γ L m1)
    (hdb : (x == ("__debug__" : Str)) = false := by decide) (s1 : starEach [e1] c.X.env = (false, eval e1 c.X.env) :: starEach [] c.X.env := by rfl) (hpl : (backTo pos (starEach [] c.X.env)).any (·.1) = false := by rfl) :
    CN c (.Call (.Name x p) [e1] [] pos) Γ L (m1.bind fun x1 => g x1) := fun B G0 G H σ Q s p => by
  obtain ⟨fd, F, b⟩ := C.ok
  refine wpE_of (pe_callSD F hr hg C.gm C.kp b .nil (fun σ => passAt tk σ) (pa_cons pe_wp pa_nil s1) hdb s1 hpl) ?_
  refine h1.then (P := PstN c G H σ Q) s p (fun z => z) (fun e z => z) fun x1 v1 G1 H1 p e1 s1 r1 => ?_
  exact ⟨G1, [enc x1] ++ [], encC (g x1), ⟨x1, rfl, rfl⟩, s1.gh, RpAll.append (.cons r1 .nil) .nil, pstC_of (PstN.ext e1 p)⟩
theorem cn_c2 {t1 t2 β : Type} [Enc t1] [Enc t2] [Enc β] {g : t1 → t2 → M (List β)} {e1 e2 : Expr} {m1 : M t1} {m2 : M t2} (C : CallableN c.X.prog c.X.w c.X.K c.X.mg c.X.base c.cA k x f ps (Nv2 g)) (hr : Room k c.X.A) (hg : Gl c.X x) (tk : Takes c.X c.W) (h1 : CE c e1 Γ L m1) (h2 : CE c e2 Γ L m2)
    (hdb : (x == ("__debug__" : Str)) = false := by decide) (s1 : starEach [e1, e2] c.X.env = (false, eval e1 c.X.env) :: starEach [e2] c.X.env := by rfl) (s2 : starEach [e2] c.X.env = (false, eval e2 c.X.env) :: starEach [] c.X.env := by rfl) (hpl : (backTo pos (starEach [e2] c.X.env)).any (·.1) = false := by rfl) :
    CN c (.Call (.Name x p) [e1, e2] [] pos) Γ L (m1.bind fun x1 => m2.bind fun x2 => g x1 x2) := fun B G0 G H σ Q s p => by
  obtain ⟨fd, F, b⟩ := C.ok
  refine wpE_of (pe_callSD F hr hg C.gm C.kp b .nil (fun σ => passAt tk σ) (pa_cons pe_wp (pa_cons pe_wp pa_nil s2) s1) hdb s1 hpl) ?_
  refine h1.then (P := PstN c G H σ Q) s p (fun z => z) (fun e z => z) fun x1 v1 G1 H1 p e1 s1 r1 => ?_
  refine h2.then (P := PstN c G1 H1 σ Q) s1 (PstN.ext e1 p) (fun z => z) (fun e z => z) fun x2 v2 G2 H2 p e2 s2 r2 => ?_
  exact ⟨G2, [enc x1, enc x2] ++ [], encC (g x1 x2), ⟨x1, x2, rfl, rfl⟩, s2.gh, RpAll.append (.cons (r1.mono e2.g) (.cons r2 .nil)) .nil, pstC_of (PstN.ext e2 p)⟩
theorem cn_c3 {t1 t2 t3 β : Type} [Enc t1] [Enc t2] [Enc t3] [Enc β] {g : t1 → t2 → t3 → M (List β)} {e1 e2 e3 : Expr} {m1 : M t1} {m2 : M t2} {m3 : M t3} (C : CallableN c.X.prog c.X.w c.X.K c.X.mg c.X.base c.cA k x f ps (Nv3 g)) (hr : Room k c.X.A) (hg : Gl c.X x) (tk : Takes c.X c.W) (h1 : CE c e1 Γ L m1) (h2 : CE c e2 Γ L m2) (h3 : CE c e3 Γ L m3)
    (hdb : (x == ("__debug__" : Str)) = false := by decide) (s1 : starEach [e1, e2, e3] c.X.env = (false, eval e1 c.X.env) :: starEach [e2, e3] c.X.env := by rfl) (s2 : starEach [e2, e3] c.X.env = (false, eval e2 c.X.env) :: starEach [e3] c.X.env := by rfl) (s3 : starEach [e3] c.X.env = (false, eval e3 c.X.env) :: starEach [] c.X.env := by rfl) (hpl : (backTo pos (starEach [e2, e3] c.X.env)).any (·.1) = false := by rfl) :
    CN c (.Call (.Name x p) [e1, e2, e3] [] pos) Γ L (m1.bind fun x1 => m2.bind fun x2 => m3.bind fun x3 => g x1 x2 x3) := fun B G0 G H σ Q s p => by
  obtain ⟨fd, F, b⟩ := C.ok
  refine wpE_of (pe_callSD F hr hg C.gm C.kp b .nil (fun σ => passAt tk σ) (pa_cons pe_wp (pa_cons pe_wp (pa_cons pe_wp pa_nil s3) s2) s1) hdb s1 hpl) ?_
  refine h1.then (P := PstN c G H σ Q) s p (fun z => z) (fun e z => z) fun x1 v1 G1 H1 p e1 s1 r1 => ?_
  refine h2.then (P := PstN c G1 H1 σ Q) s1 (PstN.ext e1 p) (fun z => z) (fun e z => z) fun x2 v2 G2 H2 p e2 s2 r2 => ?_
  refine h3.then (P := PstN c G2 H2 σ Q) s2 (PstN.ext e2 p) (fun z => z) (fun e z => z) fun x3 v3 G3 H3 p e3 s3 r3 => ?_
  exact ⟨G3, [enc x1, enc x2, enc x3] ++ [], encC (g x1 x2 x3), ⟨x1, x2, x3, rfl, rfl⟩, s3.gh, RpAll.append (.cons ((r1.mono e2.g).mono e3.g) (.cons (r2.mono e3.g) (.cons r3 .nil))) .nil, pstC_of (PstN.ext e3 p)⟩
theorem cn_c4 {t1 t2 t3 t4 β : Type} [Enc t1] [Enc t2] [Enc t3] [Enc t4] [Enc β] {g : t1 → t2 → t3 → t4 → M (List β)} {e1 e2 e3 e4 : Expr} {m1 : M t1} {m2 : M t2} {m3 : M t3} {m4 : M t4} (C : CallableN c.X.prog c.X.w c.X.K c.X.mg c.X.base c.cA k x f ps (Nv4 g)) (hr : Room k c.X.A) (hg : Gl c.X x) (tk : Takes c.X c.W) (h1 : CE c e1 Γ L m1) (h2 : CE c e2 Γ L m2) (h3 : CE c e3 Γ L m3) (h4 : CE c e4 Γ L m4)
    (hdb : (x == ("__debug__" : Str)) = false := by decide) (s1 : starEach [e1, e2, e3, e4] c.X.env = (false, eval e1 c.X.env) :: starEach [e2, e3, e4] c.X.env := by rfl) (s2 : starEach [e2, e3, e4] c.X.env = (false, eval e2 c.X.env) :: starEach [e3, e4] c.X.env := by rfl) (s3 : starEach [e3, e4] c.X.env = (false, eval e3 c.X.env) :: starEach [e4] c.X.env := by rfl) (s4 : starEach [e4] c.X.env = (false, eval e4 c.X.env) :: starEach [] c.X.env := by rfl) (hpl : (backTo pos (starEach [e2, e3, e4] c.X.env)).any (·.1) = false := by rfl) :
    CN c (.Call (.Name x p) [e1, e2, e3, e4] [] pos) Γ L (m1.bind fun x1 => m2.bind fun x2 => m3.bind fun x3 => m4.bind fun x4 => g x1 x2 x3 x4) := fun B G0 G H σ Q s p => by
  obtain ⟨fd, F, b⟩ := C.ok
  refine wpE_of (pe_callSD F hr hg C.gm C.kp b .nil (fun σ => passAt tk σ) (pa_cons pe_wp (pa_cons pe_wp (pa_cons pe_wp (pa_cons pe_wp pa_nil s4) s3) s2) s1) hdb s1 hpl) ?_
  refine h1.then (P := PstN c G H σ Q) s p (fun z => z) (fun e z => z) fun x1 v1 G1 H1 p e1 s1 r1 => ?_
  refine h2.then (P := PstN c G1 H1 σ Q) s1 (PstN.ext e1 p) (fun z => z) (fun e z => z) fun x2 v2 G2 H2 p e2 s2 r2 => ?_
  refine h3.then (P := PstN c G2 H2 σ Q) s2 (PstN.ext e2 p) (fun z => z) (fun e z => z) fun x3 v3 G3 H3 p e3 s3 r3 => ?_
  refine h4.then (P := PstN c G3 H3 σ Q) s3 (PstN.ext e3 p) (fun z => z) (fun e z => z) fun x4 v4 G4 H4 p e4 s4 r4 => ?_
  exact ⟨G4, [enc x1, enc x2, enc x3, enc x4] ++ [], encC (g x1 x2 x3 x4), ⟨x1, x2, x3, x4, rfl, rfl⟩, s4.gh, RpAll.append (.cons (((r1.mono e2.g).mono e3.g).mono e4.g) (.cons ((r2.mono e3.g).mono e4.g) (.cons (r3.mono e4.g) (.cons r4 .nil)))) .nil, pstC_of (PstN.ext e4 p)⟩
theorem cn_c5 {t1 t2 t3 t4 t5 β : Type} [Enc t1] [Enc t2] [Enc t3] [Enc t4] [Enc t5] [Enc β] {g : t1 → t2 → t3 → t4 → t5 → M (List β)} {e1 e2 e3 e4 e5 : Expr} {m1 : M t1} {m2 : M t2} {m3 : M t3} {m4 : M t4} {m5 : M t5} (C : CallableN c.X.prog c.X.w c.X.K c.X.mg c.X.base c.cA k x f ps (Nv5 g)) (hr : Room k c.X.A) (hg : Gl c.X x) (tk : Takes c.X c.W) (h1 : CE c e1 Γ L m1) (h2 : CE c e2 Γ L m2) (h3 : CE c e3 Γ L m3) (h4 : CE c e4 Γ L m4) (h5 : CE c e5 Γ L m5)
    (hdb : (x == ("__debug__" : Str)) = false := by decide) (s1 : starEach [e1, e2, e3, e4, e5] c.X.env = (false, eval e1 c.X.env) :: starEach [e2, e3, e4, e5] c.X.env := by rfl) (s2 : starEach [e2, e3, e4, e5] c.X.env = (false, eval e2 c.X.env) :: starEach [e3, e4, e5] c.X.env := by rfl) (s3 : starEach [e3, e4, e5] c.X.env = (false, eval e3 c.X.env) :: starEach [e4, e5] c.X.env := by rfl) (s4 : starEach [e4, e5] c.X.env = (false, eval e4 c.X.env) :: starEach [e5] c.X.env := by rfl) (s5 : starEach [e5] c.X.env = (false, eval e5 c.X.env) :: starEach [] c.X.env := by rfl) (hpl : (backTo pos (starEach [e2, e3, e4, e5] c.X.env)).any (·.1) = false := by rfl) :
    CN c (.Call (.Name x p) [e1, e2, e3, e4, e5] [] pos) Γ L (m1.bind fun x1 => m2.bind fun x2 => m3.bind fun x3 => m4.bind fun x4 => m5.bind fun x5 => g x1 x2 x3 x4 x5) := fun B G0 G H σ Q s p => by
  obtain ⟨fd, F, b⟩ := C.ok
  refine wpE_of (pe_callSD F hr hg C.gm C.kp b .nil (fun σ => passAt tk σ) (pa_cons pe_wp (pa_cons pe_wp (pa_cons pe_wp (pa_cons pe_wp (pa_cons pe_wp pa_nil s5) s4) s3) s2) s1) hdb s1 hpl) ?_
  refine h1.then (P := PstN c G H σ Q) s p (fun z => z) (fun e z => z) fun x1 v1 G1 H1 p e1 s1 r1 => ?_
  refine h2.then (P := PstN c G1 H1 σ Q) s1 (PstN.ext e1 p) (fun z => z) (fun e z => z) fun x2 v2 G2 H2 p e2 s2 r2 => ?_
  refine h3.then (P := PstN c G2 H2 σ Q) s2 (PstN.ext e2 p) (fun z => z) (fun e z => z) fun x3 v3 G3 H3 p e3 s3 r3 => ?_
  refine h4.then (P := PstN c G3 H3 σ Q) s3 (PstN.ext e3 p) (fun z => z) (fun e z => z) fun x4 v4 G4 H4 p e4 s4 r4 => ?_
  refine h5.then (P := PstN c G4 H4 σ Q) s4 (PstN.ext e4 p) (fun z => z) (fun e z => z) fun x5 v5 G5 H5 p e5 s5 r5 => ?_
  exact ⟨G5, [enc x1, enc x2, enc x3, enc x4, enc x5] ++ [], encC (g x1 x2 x3 x4 x5), ⟨x1, x2, x3, x4, x5, rfl, rfl⟩, s5.gh, RpAll.append (.cons ((((r1.mono e2.g).mono e3.g).mono e4.g).mono e5.g) (.cons (((r2.mono e3.g).mono e4.g).mono e5.g) (.cons ((r3.mono e4.g).mono e5.g) (.cons (r4.mono e5.g) (.cons r5 .nil))))) .nil, pstC_of (PstN.ext e5 p)⟩
theorem cn_c6 {t1 t2 t3 t4 t5 t6 β : Type} [Enc t1] [Enc t2] [Enc t3] [Enc t4] [Enc t5] [Enc t6] [Enc β] {g : t1 → t2 → t3 → t4 → t5 → t6 → M (List β)} {e1 e2 e3 e4 e5 e6 : Expr} {m1 : M t1} {m2 : M t2} {m3 : M t3} {m4 : M t4} {m5 : M t5} {m6 : M t6} (C : CallableN c.X.prog c.X.w c.X.K c.X.mg c.X.base c.cA k x f ps (Nv6 g)) (hr : Room k c.X.A) (hg : Gl c.X x) (tk : Takes c.X c.W) (h1 : CE c e1 Γ L m1) (h2 : CE c e2 Γ L m2) (h3 : CE c e3 Γ L m3) (h4 : CE c e4 Γ L m4) (h5 : CE c e5 Γ L m5) (h6 : CE c e6 Γ L m6)
    (hdb : (x == ("__debug__" : Str)) = false := by decide) (s1 : starEach [e1, e2, e3, e4, e5, e6] c.X.env = (false, eval e1 c.X.env) :: starEach [e2, e3, e4, e5, e6] c.X.env := by rfl) (s2 : starEach [e2, e3, e4, e5, e6] c.X.env = (false, eval e2 c.X.env) :: starEach [e3, e4, e5, e6] c.X.env := by rfl) (s3 : starEach [e3, e4, e5, e6] c.X.env = (false, eval e3 c.X.env) :: starEach [e4, e5, e6] c.X.env := by rfl) (s4 : starEach [e4, e5, e6] c.X.env = (false, eval e4 c.X.env) :: starEach [e5, e6] c.X.env := by rfl) (s5 : starEach [e5, e6] c.X.env = (false, eval e5 c.X.env) :: starEach [e6] c.X.env := by rfl) (s6 : starEach [e6] c.X.env = (false, eval e6 c.X.env) :: starEach [] c.X.env := by rfl) (hpl : (backTo pos (starEach [e2, e3, e4, e5, e6] c.X.env)).any (·.1) = false := by rfl) :
    CN c (.Call (.Name x p) [e1, e2, e3, e4, e5, e6] [] pos) Γ L (m1.bind fun x1 => m2.bind fun x2 => m3.bind fun x3 => m4.bind fun x4 => m5.bind fun x5 => m6.bind fun x6 => g x1 x2 x3 x4 x5 x6) := fun B G0 G H σ Q s p => by
  obtain ⟨fd, F, b⟩ := C.ok
  refine wpE_of (pe_callSD F hr hg C.gm C.kp b .nil (fun σ => passAt tk σ) (pa_cons pe_wp (pa_cons pe_wp (pa_cons pe_wp (pa_cons pe_wp (pa_cons pe_wp (pa_cons pe_wp pa_nil s6) s5) s4) s3) s2) s1) hdb s1 hpl) ?_
  refine h1.then (P := PstN c G H σ Q) s p (fun z => z) (fun e z => z) fun x1 v1 G1 H1 p e1 s1 r1 => ?_
  refine h2.then (P := PstN c G1 H1 σ Q) s1 (PstN.ext e1 p) (fun z => z) (fun e z => z) fun x2 v2 G2 H2 p e2 s2 r2 => ?_
  refine h3.then (P := PstN c G2 H2 σ Q) s2 (PstN.ext e2 p) (fun z => z) (fun e z => z) fun x3 v3 G3 H3 p e3 s3 r3 => ?_
  refine h4.then (P := PstN c G3 H3 σ Q) s3 (PstN.ext e3 p) (fun z => z) (fun e z => z) fun x4 v4 G4 H4 p e4 s4 r4 => ?_
  refine h5.then (P := PstN c G4 H4 σ Q) s4 (PstN.ext e4 p) (fun z => z) (fun e z => z) fun x5 v5 G5 H5 p e5 s5 r5 => ?_
  refine h6.then (P := PstN c G5 H5 σ Q) s5 (PstN.ext e5 p) (fun z => z) (fun e z => z) fun x6 v6 G6 H6 p e6 s6 r6 => ?_
  exact ⟨G6, [enc x1, enc x2, enc x3, enc x4, enc x5, enc x6] ++ [], encC (g x1 x2 x3 x4 x5 x6), ⟨x1, x2, x3, x4, x5, x6, rfl, rfl⟩, s6.gh, RpAll.append (.cons (((((r1.mono e2.g).mono e3.g).mono e4.g).mono e5.g).mono e6.g) (.cons ((((r2.mono e3.g).mono e4.g).mono e5.g).mono e6.g) (.cons (((r3.mono e4.g).mono e5.g).mono e6.g) (.cons ((r4.mono e5.g).mono e6.g) (.cons (r5.mono e6.g) (.cons r6 .nil)))))) .nil, pstC_of (PstN.ext e6 p)⟩
theorem cn_c7 {t1 t2 t3 t4 t5 t6 t7 β : Type} [Enc t1] [Enc t2] [Enc t3] [Enc t4] [Enc t5] [Enc t6] [Enc t7] [Enc β] {g : t1 → t2 → t3 → t4 → t5 → t6 → t7 → M (List β)} {e1 e2 e3 e4 e5 e6 e7 : Expr} {m1 : M t1} {m2 : M t2} {m3 : M t3} {m4 : M t4} {m5 : M t5} {m6 : M t6} {m7 : M t7} (C : CallableN c.X.prog c.X.w c.X.K c.X.mg c.X.base c.cA k x f ps (Nv7 g)) (hr : Room k c.X.A) (hg : Gl c.X x) (tk : Takes c.X c.W) (h1 : CE c e1 Γ L m1) (h2 : CE c e2 Γ L m2) (h3 : CE c e3 Γ L m3) (h4 : CE c e4 Γ L m4) (h5 : CE c e5 Γ L m5) (h6 : CE c e6 Γ L m6) (h7 : CE c e7 Γ L m7)
    (hdb : (x == ("__debug__" : Str)) = false := by decide) (s1 : starEach [e1, e2, e3, e4, e5, e6, e7] c.X.env = (false, eval e1 c.X.env) :: starEach [e2, e3, e4, e5, e6, e7] c.X.env := by rfl) (s2 : starEach [e2, e3, e4, e5, e6, e7] c.X.env = (false, eval e2 c.X.env) :: starEach [e3, e4, e5, e6, e7] c.X.env := by rfl) (s3 : starEach [e3, e4, e5, e6, e7] c.X.env = (false, eval e3 c.X.env) :: starEach [e4, e5, e6, e7] c.X.env := by rfl) (s4 : starEach [e4, e5, e6, e7] c.X.env = (false, eval e4 c.X.env) :: starEach [e5, e6, e7] c.X.env := by rfl) (s5 : starEach [e5, e6, e7] c.X.env = (false, eval e5 c.X.env) :: starEach [e6, e7] c.X.env := by rfl) (s6 : starEach [e6, e7] c.X.env = (false, eval e6 c.X.env) :: starEach [e7] c.X.env := by rfl) (s7 : starEach [e7] c.X.env = (false, eval e7 c.X.env) :: starEach [] c.X.env := by rfl) (hpl : (backTo pos (starEach [e2, e3, e4, e5, e6, e7] c.X.env)).any (·.1) = false := by rfl) :
    CN c (.Call (.Name x p) [e1, e2, e3, e4, e5, e6, e7] [] pos) Γ L (m1.bind fun x1 => m2.bind fun x2 => m3.bind fun x3 => m4.bind fun x4 => m5.bind fun x5 => m6.bind fun x6 => m7.bind fun x7 => g x1 x2 x3 x4 x5 x6 x7) := fun B G0 G H σ Q s p => by
  obtain ⟨fd, F, b⟩ := C.ok
  refine wpE_of (pe_callSD F hr hg C.gm C.kp b .nil (fun σ => passAt tk σ) (pa_cons pe_wp (pa_cons pe_wp (pa_cons pe_wp (pa_cons pe_wp (pa_cons pe_wp (pa_cons pe_wp (pa_cons pe_wp pa_nil s7) s6) s5) s4) s3) s2) s1) hdb s1 hpl) ?_
  refine h1.then (P := PstN c G H σ Q) s p (fun z => z) (fun e z => z) fun x1 v1 G1 H1 p e1 s1 r1 => ?_
  refine h2.then (P := PstN c G1 H1 σ Q) s1 (PstN.ext e1 p) (fun z => z) (fun e z => z) fun x2 v2 G2 H2 p e2 s2 r2 => ?_
  refine h3.then (P := PstN c G2 H2 σ Q) s2 (PstN.ext e2 p) (fun z => z) (fun e z => z) fun x3 v3 G3 H3 p e3 s3 r3 => ?_
  refine h4.then (P := PstN c G3 H3 σ Q) s3 (PstN.ext e3 p) (fun z => z) (fun e z => z) fun x4 v4 G4 H4 p e4 s4 r4 => ?_
  refine h5.then (P := PstN c G4 H4 σ Q) s4 (PstN.ext e4 p) (fun z => z) (fun e z => z) fun x5 v5 G5 H5 p e5 s5 r5 => ?_
  refine h6.then (P := PstN c G5 H5 σ Q) s5 (PstN.ext e5 p) (fun z => z) (fun e z => z) fun x6 v6 G6 H6 p e6 s6 r6 => ?_
  refine h7.then (P := PstN c G6 H6 σ Q) s6 (PstN.ext e6 p) (fun z => z) (fun e z => z) fun x7 v7 G7 H7 p e7 s7 r7 => ?_
  exact ⟨G7, [enc x1, enc x2, enc x3, enc x4, enc x5, enc x6, enc x7] ++ [], encC (g x1 x2 x3 x4 x5 x6 x7), ⟨x1, x2, x3, x4, x5, x6, x7, rfl, rfl⟩, s7.gh, RpAll.append (.cons ((((((r1.mono e2.g).mono e3.g).mono e4.g).mono e5.g).mono e6.g).mono e7.g) (.cons (((((r2.mono e3.g).mono e4.g).mono e5.g).mono e6.g).mono e7.g) (.cons ((((r3.mono e4.g).mono e5.g).mono e6.g).mono e7.g) (.cons (((r4.mono e5.g).mono e6.g).mono e7.g) (.cons ((r5.mono e6.g).mono e7.g) (.cons (r6.mono e7.g) (.cons r7 .nil))))))) .nil, pstC_of (PstN.ext e7 p)⟩
theorem cn_c8 {t1 t2 t3 t4 t5 t6 t7 t8 β : Type} [Enc t1] [Enc t2] [Enc t3] [Enc t4] [Enc t5] [Enc t6] [Enc t7] [Enc t8] [Enc β] {g : t1 → t2 → t3 → t4 → t5 → t6 → t7 → t8 → M (List β)} {e1 e2 e3 e4 e5 e6 e7 e8 : Expr} {m1 : M t1} {m2 : M t2} {m3 : M t3} {m4 : M t4} {m5 : M t5} {m6 : M t6} {m7 : M t7} {m8 : M t8} (C : CallableN c.X.prog c.X.w c.X.K c.X.mg c.X.base c.cA k x f ps (Nv8 g)) (hr : Room k c.X.A) (hg : Gl c.X x) (tk : Takes c.X c.W) (h1 : CE c e1 Γ L m1) (h2 : CE c e2 Γ L m2) (h3 : CE c e3 Γ L m3) (h4 : CE c e4 Γ L m4) (h5 : CE c e5 Γ L m5) (h6 : CE c e6 Γ L m6) (h7 : CE c e7 Γ L m7) (h8 : CE c e8 Γ L m8)
    (hdb : (x == ("__debug__" : Str)) = false := by decide) (s1 : starEach [e1, e2, e3, e4, e5, e6, e7, e8] c.X.env = (false, eval e1 c.X.env) :: starEach [e2, e3, e4, e5, e6, e7, e8] c.X.env := by rfl) (s2 : starEach [e2, e3, e4, e5, e6, e7, e8] c.X.env = (false, eval e2 c.X.env) :: starEach [e3, e4, e5, e6, e7, e8] c.X.env := by rfl) (s3 : starEach [e3, e4, e5, e6, e7, e8] c.X.env = (false, eval e3 c.X.env) :: starEach [e4, e5, e6, e7, e8] c.X.env := by rfl) (s4 : starEach [e4, e5, e6, e7, e8] c.X.env = (false, eval e4 c.X.env) :: starEach [e5, e6, e7, e8] c.X.env := by rfl) (s5 : starEach [e5, e6, e7, e8] c.X.env = (false, eval e5 c.X.env) :: starEach [e6, e7, e8] c.X.env := by rfl) (s6 : starEach [e6, e7, e8] c.X.env = (false, eval e6 c.X.env) :: starEach [e7, e8] c.X.env := by rfl) (s7 : starEach [e7, e8] c.X.env = (false, eval e7 c.X.env) :: starEach [e8] c.X.env := by rfl) (s8 : starEach [e8] c.X.env = (false, eval e8 c.X.env) :: starEach [] c.X.env := by rfl) (hpl : (backTo pos (starEach [e2, e3, e4, e5, e6, e7, e8] c.X.env)).any (·.1) = false := by rfl) :
    CN c (.Call (.Name x p) [e1, e2, e3, e4, e5, e6, e7, e8] [] pos) Γ L (m1.bind fun x1 => m2.bind fun x2 => m3.bind fun x3 => m4.bind fun x4 => m5.bind fun x5 => m6.bind fun x6 => m7.bind fun x7 => m8.bind fun x8 => g x1 x2 x3 x4 x5 x6 x7 x8) := fun B G0 G H σ Q s p => by
  obtain ⟨fd, F, b⟩ := C.ok
  refine wpE_of (pe_callSD F hr hg C.gm C.kp b .nil (fun σ => passAt tk σ) (pa_cons pe_wp (pa_cons pe_wp (pa_cons pe_wp (pa_cons pe_wp (pa_cons pe_wp (pa_cons pe_wp (pa_cons pe_wp (pa_cons pe_wp pa_nil s8) s7) s6) s5) s4) s3) s2) s1) hdb s1 hpl) ?_
  refine h1.then (P := PstN c G H σ Q) s p (fun z => z) (fun e z => z) fun x1 v1 G1 H1 p e1 s1 r1 => ?_
  refine h2.then (P := PstN c G1 H1 σ Q) s1 (PstN.ext e1 p) (fun z => z) (fun e z => z) fun x2 v2 G2 H2 p e2 s2 r2 => ?_
  refine h3.then (P := PstN c G2 H2 σ Q) s2 (PstN.ext e2 p) (fun z => z) (fun e z => z) fun x3 v3 G3 H3 p e3 s3 r3 => ?_
  refine h4.then (P := PstN c G3 H3 σ Q) s3 (PstN.ext e3 p) (fun z => z) (fun e z => z) fun x4 v4 G4 H4 p e4 s4 r4 => ?_
  refine h5.then (P := PstN c G4 H4 σ Q) s4 (PstN.ext e4 p) (fun z => z) (fun e z => z) fun x5 v5 G5 H5 p e5 s5 r5 => ?_
  refine h6.then (P := PstN c G5 H5 σ Q) s5 (PstN.ext e5 p) (fun z => z) (fun e z => z) fun x6 v6 G6 H6 p e6 s6 r6 => ?_
  refine h7.then (P := PstN c G6 H6 σ Q) s6 (PstN.ext e6 p) (fun z => z) (fun e z => z) fun x7 v7 G7 H7 p e7 s7 r7 => ?_
  refine h8.then (P := PstN c G7 H7 σ Q) s7 (PstN.ext e7 p) (fun z => z) (fun e z => z) fun x8 v8 G8 H8 p e8 s8 r8 => ?_
  exact ⟨G8, [enc x1, enc x2, enc x3, enc x4, enc x5, enc x6, enc x7, enc x8] ++ [], encC (g x1 x2 x3 x4 x5 x6 x7 x8), ⟨x1, x2, x3, x4, x5, x6, x7, x8, rfl, rfl⟩, s8.gh, RpAll.append (.cons (((((((r1.mono e2.g).mono e3.g).mono e4.g).mono e5.g).mono e6.g).mono e7.g).mono e8.g) (.cons ((((((r2.mono e3.g).mono e4.g).mono e5.g).mono e6.g).mono e7.g).mono e8.g) (.cons (((((r3.mono e4.g).mono e5.g).mono e6.g).mono e7.g).mono e8.g) (.cons ((((r4.mono e5.g).mono e6.g).mono e7.g).mono e8.g) (.cons (((r5.mono e6.g).mono e7.g).mono e8.g) (.cons ((r6.mono e7.g).mono e8.g) (.cons (r7.mono e8.g) (.cons r8 .nil)))))))) .nil, pstC_of (PstN.ext e8 p)⟩
end
end Pf

/-! P12: repr; a law's end where nothing is being shown (guards = some []). -/
namespace Pf
open PySem PySem.Spec L2
open PyProof.Rows hiding St
open M (need some!)
mutual
def D.py : D → PyData
  | .non => .none
  | .bl b => .bool b
  | .int i => .int i
  | .str s => .str s
  | .lst xs => .list (pyAll xs)
  | .tup xs => .tuple (pyAll xs)
  | .dK _ _ => .none
  | .dT _ _ => .none
  | .obj _ _ _ => .none
  | .own _ => .none
def pyAll : List D → List PyData
  | [] => []
  | x :: xs => D.py x :: pyAll xs
end
mutual
theorem d_noDict : ∀ d : D, d.py.hasDict = false
  | .non => rfl
  | .bl _ => rfl
  | .int _ => rfl
  | .str _ => rfl
  | .lst xs => by unfold D.py PyData.hasDict; exact ds_noDict xs
  | .tup xs => by unfold D.py PyData.hasDict; exact ds_noDict xs
  | .dK _ _ => rfl
  | .dT _ _ => rfl
  | .obj _ _ _ => rfl
  | .own _ => rfl
theorem ds_noDict : ∀ xs : List D, PyData.hasDictAll (pyAll xs) = false
  | [] => rfl
  | x :: xs => by unfold pyAll PyData.hasDictAll; rw [d_noDict x, ds_noDict xs]; rfl
end
section
variable {X : Cx} {pins : List (Addr × Obj)} {σ : L2.St} {H G : Hp} {s : Shared} {cA : Str → Addr}
theorem reads_all_of {n : Nat} (f : ∀ {x : V} {u : Value} {d : D}, RelV x u → Rp X.K cA G x d → D.pl n d = true → ∃ as, Reads s.heap u d.py as) :
    ∀ {vs : List V} {us : List Value} {ds : List D}, Vals vs us → RpAll X.K cA G vs ds → (∀ d ∈ ds, D.pl n d = true) → ∃ as, ReadsAll s.heap us (pyAll ds) as
  | _, _, _, .nil, .nil, _ => ⟨_, .nil⟩
  | _, _, _, .cons r1 r2, .cons q1 q2, h => by
    obtain ⟨as, h1⟩ := f r1 q1 (h _ List.mem_cons_self)
    obtain ⟨bs, h2⟩ := reads_all_of f r2 q2 fun d hd => h d (List.mem_cons_of_mem _ hd)
    exact ⟨_, .cons h1 h2⟩
theorem reads_pl (I : Inv X pins σ H s) (sg : Sub G H) (n : Nat) : ∀ {x : V} {u : Value} {d : D}, RelV x u → Rp X.K cA G x d → D.pl n d = true → ∃ as, Reads s.heap u d.py as := by
  induction n with
  | zero =>
    intro x u d rx r p
    cases r with
    | non => cases rx; exact ⟨_, .none⟩
    | bl b => cases rx; exact ⟨_, .bool _⟩
    | int i => obtain ⟨t, rfl⟩ := rx; exact ⟨_, .int _ _⟩
    | str z => obtain ⟨t, rfl⟩ := rx; exact ⟨_, .str _ _⟩
    | lst => simp [D.pl] at p
    | tup => simp [D.pl] at p
    | dK => simp [D.pl] at p
    | dT => simp [D.pl] at p
    | obj => simp [D.pl] at p
    | own => simp [D.pl] at p
  | succ n ih =>
    intro x u d rx r p
    cases r with
    | non => cases rx; exact ⟨_, .none⟩
    | bl b => cases rx; exact ⟨_, .bool _⟩
    | int i => obtain ⟨t, rfl⟩ := rx; exact ⟨_, .int _ _⟩
    | str z => obtain ⟨t, rfl⟩ := rx; exact ⟨_, .str _ _⟩
    | lst h ra =>
      obtain ⟨its, rv, ⟨o, n', e, c, d', q⟩, _⟩ := I.list (sg.sl h)
      cases rx
      obtain ⟨as, h2⟩ := reads_all_of ih rv ra (by simpa [D.pl] using p)
      exact ⟨_, .list e c q (by simpa using h2)⟩
    | tup h ra =>
      obtain ⟨its, rv, ⟨o, e, c, n', q⟩, _⟩ := I.tuple (sg.st h)
      cases rx
      obtain ⟨as, h2⟩ := reads_all_of ih rv ra (by simpa [D.pl] using p)
      exact ⟨_, .tuple e c q (by simpa using h2)⟩
    | dK => simp [D.pl] at p
    | dT => simp [D.pl] at p
    | obj => simp [D.pl] at p
    | own => simp [D.pl] at p
end
/-- repr, where nothing is being shown -/
def reprM {α : Type} [Enc α] (x : α) : M Str := need (((enc x).py.showable && decide ((enc x).py.shown.length ≤ sizeLine)) && decide ((enc x).py.depth ≤ 60)) (.ok (enc x).py.shown)
section
variable {c : Cfg} {Γ : Fm} {L : Led} {α β : Type} [Enc α] [Enc β]
theorem bc_repr [DecidableEq α] [Pl α] {x : α} (hg : c.X.A.guards = some []) (hu : c.X.A.units + 64 < cLine) : BC1 c (.builtin "repr") x (reprM x) := fun G H σ v Q s r p => by
  obtain ⟨h, p⟩ := p.need
  rw [Bool.and_eq_true, Bool.and_eq_true] at h
  obtain ⟨⟨h1, h2⟩, h3⟩ := h
  have h2 := of_decide_eq_true h2
  have h3 := of_decide_eq_true h3
  have pl := Pl.pl x
  generalize enc x = d at r p h1 h2 h3 pl
  have hQ : Q (.str d.py.shown) H := p _ G H (Ext.refl s) (.str _)
  clear p
  intro pins sh σ' us I ru
  obtain ⟨u, rfl, rv⟩ : ∃ u, us = [u] ∧ RelV v u := by
    cases ru with
    | cons a b => cases b; exact ⟨_, rfl, a⟩
  obtain ⟨as, R⟩ := reads_pl I s _ rv r pl
  have fin : ∀ h' tk t, (∀ b o, sh.heap.get? b = some o → h'.get? b = some o) → EP c.X pins σ' Q (.str d.py.shown t) { sh with heap := h', toks := tk } := fun h' tk t hk => ⟨.str d.py.shown, H, I.kept hk, ⟨t, rfl⟩, hQ⟩
  have nd : d.py.hasDict = true → sysModules ∉ as := fun z => by
    have : ∀ (n : Nat) (d : D), d.py.hasDict = false := fun _ d => d_noDict d
    rw [this 0 d] at z; cases z
  generalize d.py = pd at h1 h2 h3 fin nd R
  cases R with
  | none => exact PySem.P.repr_of_none (fin _ _ _ fun _ _ e => e)
  | bool b => exact PySem.P.repr_of_bool (fin _ _ _ fun _ _ e => e)
  | int i t => exact PySem.P.repr_of_int (by simpa [PyData.showable] using h1) (fin _ _ _ fun _ _ e => e)
  | str z t => exact PySem.P.repr_of_str (fin _ _ _ fun _ _ e => e) h2
  | list e1 e2 e3 e4 => exact repr_of_reads' (.list e1 e2 e3 e4) h1 nd hg (by omega) (fun _ _ e => e) (fun h' u tk hk => fin h' tk u hk) h2
  | tuple e1 e2 e3 e4 => exact repr_of_reads' (.tuple e1 e2 e3 e4) h1 nd hg (by omega) (fun _ _ e => e) (fun h' u tk hk => fin h' tk u hk) h2
  | dict e1 e2 e3 e4 e5 => exact repr_of_reads' (.dict e1 e2 e3 e4 e5) h1 nd hg (by omega) (fun _ _ e => e) (fun h' u tk hk => fin h' tk u hk) h2
end
end Pf

/-! P13: the law's def runs where nothing is being shown (callerA): a promise at one place; the law's end by it. (The proofs go as those of HandS.Call fn_of and HandS.Ends law_call, turned to one Around.) -/
namespace Pf
open PySem PySem.Spec L2
open PyProof.Rows hiding St
/-- the promise of a def that is called within A -/
def RunAt (A : Around) (P : Program) (w : World) (K : PySem.W.Frag) (mg : Str → Option Value) (base : Heap) (CX : CXT) (f : Addr) (fd : FuncData) (ps : List Str) (sp : Sp) : Prop :=
  ∀ (outer : List Env) (s : Shared) (H : Hp) (args : Args) (us : List Value) (vs : List V) (Q : VK) (E : XK), Env0 P w K mg base A outer s H → BindsTo s fd args (ps.zip us) → Vals vs us → sp vs H Q E →
    codeAny (model P w) A (.call (.ref f) args) (CR CX outer P w H s Q E) s
theorem runAt_of {A : Around} {CX : CXT} {P : Program} {w : World} {K : PySem.W.Frag} {mg : Str → Option Value} {base : Heap} {k : Nat} {f : Addr} {name qual : Str} {params : Arguments} {body : List Stmt} {scope : Scope} {dV kV doc pm cdv ct oc : Value} {an od : Option Addr}
    {osl : Array (Option Value)} {N ps : List Str} {sp : Sp} (lk : K.lookup f = some ⟨oc, od, .func (PySem.W.fnOf name qual params body scope dV kV doc pm an cdv ct), osl⟩) (hcd : PySem.W.codeIn K cdv qual = true) (S : FnScope N ps scope)
    (len : ∀ vs H Q E, sp vs H Q E → vs.length = ps.length) (hr : Room (k + 1) A)
    (hbody : ∀ (outer : List Env) (s : Shared) (H : Hp) (vs : List V) (Q : VK) (E : XK), Room k (A.deeper (envOfC qual scope s.heap.objs.size f cdv)) → sp vs H Q E →
      ∃ t, PSs (cxOf CX P w K mg base N qual scope f cdv A outer s H E) body t ∧ t { nx := fun _ H' => Q .non H', rt := Q } (start N vs) H) :
    RunAt A P w K mg base CX f (PySem.W.fnOf name qual params body scope dV kV doc pm an cdv ct) ps sp := by
  intro outer s H args us vs Q E e0 hb r hsp
  have hl := len _ _ _ _ hsp
  have KX : K.In s.heap := e0.mod.kin.keeps fun b o e => (e0.bs b o e).1
  have lim : s.heap.NoLimit := e0.mod.nolimit.keeps fun b o e => (e0.bs b o e).1
  have hkind : ∀ y ∈ ps.zip us, scope.names.lookup y.1 = some .local ∨ (scope.names.lookup y.1 = some .cell ∧ ((cellsFrom (s.heap.objs.size + 1) scope.names []).lookup y.1).isSome = true) := fun ⟨n, v⟩ hy => by
    rcases S.par n (List.of_mem_zip hy).1 with q | q
    · exact .inl q
    · exact .inr ⟨q, PySem.W.cellsFrom_some _ _ _ (.inl q)⟩
  refine codeAny_call_function hr.depth (KX _ _ lk) rfl S.co S.gen rfl (PySem.W.codeRec_of KX hcd) (hb _ _ _ _ ?_)
  refine wpAny_newFunctionEnv_cells S.kind hkind fun env he s1 x => ?_
  subst he
  refine ⟨lim.keeps x.toInCall.keep, codeAny_func ?_⟩
  obtain ⟨t, ht, hq⟩ := hbody outer s H vs Q E (hr.deeper _) hsp
  have I : Inv (cxOf CX P w K mg base N qual scope f cdv A outer s H E) [] (start N vs) H s1 := inv_start S hr.hd e0 hl r x
  refine wpAny_mono (ht.run [] s1 (start N vs) H _ I hq) (fun fl s' hs => ?_) fun e s' hs => hs
  have fin : ∀ {σ' : St} {H' : Hp} {v : V} {u : Value}, Inv (cxOf CX P w K mg base N qual scope f cdv A outer s H E) [] σ' H' s' → RelV v u → Q v H' → L2.CE outer P w H s Q u s' :=
    fun {σ' H' v u} J rv q => ⟨v, H', J.os, J.bare, J.base, J.hok, rv, q⟩
  cases fl with
  | ret u =>
    obtain ⟨v, σ', H', J, rv, q⟩ := hs
    exact fin J rv q
  | next =>
    obtain ⟨σ', H', J, q⟩ := hs
    exact fin (v := V.non) (u := Value.none) J rfl q
  | brk =>
    obtain ⟨_, _, _, q⟩ := hs
    exact False.elim q
  | cont =>
    obtain ⟨_, _, _, q⟩ := hs
    exact False.elim q
theorem law_runG {P : Program} {w : World} {K : PySem.W.Frag} {mg mb : Str → Option Value} {CX : CXT} {fa a : Addr} {fd : FuncData} {x : Str} {sp : Sp} {s₁ : Shared} {vs : List Value} {ns : List Int}
    (KX : K.In s₁.heap) (hns : s₁.heap.Ns mainGlobals mg) (hb : s₁.heap.Ns builtinsNs mb) (hbb : ∀ x : Str, x ≠ "__name__" → mb x = bootBuiltins x) (hlim : s₁.heap.NoLimit) (hg : s₁.gens = #[])
    (ha : s₁.heap.get? a = some { cls := .type "list", data := .seq vs.toArray }) (hi : IntsAre vs ns) (hl : ns.length ≤ sizeLine)
    (F : ∀ base : Heap, K.In base → base.Ns mainGlobals mg → RunAt callerA P w K mg base CX fa fd [x] sp) (hbind : ∀ (s : Shared) (u : Value), BindsTo s fd ⟨[u], []⟩ [(x, u)])
    (hsp : ∀ H : Hp, Only H → SqL K H a (ns.map V.int) → sp [.ref a] H (fun v _ => v = .bl true) fun _ _ _ => False)
    (hCX : ∀ H e s', CX [] H s₁ (fun _ _ _ => False) e s' → False) :
    codeAny (model P w) callerA (.call (.ref fa) ⟨[.ref a], []⟩) (fun r s' => r = .ok (.ret (.bool true)) ∧ OldK s₁.heap s'.heap ∧ s'.os = s₁.os ∧ AllBare s'.gens) s₁ := by
  have rv := vals_ints hi
  have lenV := hi.length
  -- from an abstract heap in which nothing but the script may be tracked
  have core : ∀ H : Hp, Only H → SqL K H a (ns.map V.int) → HOk P w H s₁.heap → (∀ b, H b ≠ none → b = a) → (H a ≠ none → K.lookup a = none) →
      codeAny (model P w) callerA (.call (.ref fa) ⟨[.ref a], []⟩) (fun r s' => r = .ok (.ret (.bool true)) ∧ OldK s₁.heap s'.heap ∧ s'.os = s₁.os ∧ AllBare s'.gens) s₁ := by
    intro H hO hS hok hA hK
    have base_of : ∀ {b : Addr} {o : Obj}, s₁.heap.get? b = some o → H b = none → (hidT s₁.heap H).get? b = some o := fun e n => hidT_get e n
    have noA : ∀ {b : Addr} {o : Obj} {es : Array DictEntry} {ep : Nat}, s₁.heap.get? b = some o → o.data = .dict es ep → H b = none := fun {b o es ep} e d => by
      cases q : H b with
      | none => rfl
      | some u =>
        have e' : b = a := hA b (by rw [q]; simp)
        subst e'
        rw [ha] at e; cases e
        have d' : Data.seq vs.toArray _ = Data.dict es ep := d
        cases d'
    have nsK : ∀ {b : Addr} {m : Str → Option Value}, s₁.heap.Ns b m → (hidT s₁.heap H).Ns b m := fun {b m} ⟨o, es, ep, e, d, r⟩ => ⟨o, es, ep, base_of e (noA e d), d, r⟩
    have hKb : K.In (hidT s₁.heap H) := fun b o e => base_of (KX b o e) (by
      cases q : H b with
      | none => rfl
      | some u =>
        have e' : b = a := hA b (by rw [q]; simp)
        subst e'
        rw [hK (by rw [q]; simp)] at e; cases e)
    have hM : Mod K mg (hidT s₁.heap H) := ⟨hKb, nsK hns, ⟨mb, nsK hb, hbb⟩, let ⟨mc, h1, h2⟩ := hlim; ⟨mc, nsK h1, h2⟩⟩
    have e0 : Env0 P w K mg (hidT s₁.heap H) callerA [] s₁ H := ⟨rfl, hM, fun b o e => of_hidT e, Nat.le_of_eq (hidT_size _ _), trivial, fun b hb => absurd (show b ∈ ([] : List Addr) from hb) (by simp), hok, .of_eq hg⟩
    refine codeAny_mono ((F _ hKb (nsK hns)) [] s₁ H ⟨[.ref a], []⟩ [.ref a] [.ref a] _ _ e0 (hbind s₁ (.ref a)) (.cons rfl .nil) (hsp H hO hS)) fun r s' h => ?_
    cases r with
    | error e => exact (hCX H e s' h).elim
    | ok fl =>
      cases fl with
      | next => exact False.elim h
      | brk => exact False.elim h
      | cont => exact False.elim h
      | ret u =>
        obtain ⟨v, H', os, bare, un, hok', r', q⟩ := h
        have q' : v = .bl true := q
        subst q'
        obtain rfl : u = Value.bool true := r'
        refine ⟨rfl, OldK.of_keep fun b o e => ?_, os, bare⟩
        cases q : H b with
        | none => exact un.keep b o e q (by intro z; exact absurd (show b ∈ ([] : List Addr) from z) (by simp)) (by simp)
        | some u =>
          rcases hO b with z | ⟨ob, xs, z⟩
          · rw [q] at z; cases z
          · have z2 := un.frzs b ob _ z
            obtain ⟨e1, _⟩ := hok b _ z
            obtain ⟨e2, _⟩ := hok' b _ z2
            rw [e] at e1; cases e1
            exact e2
  cases hk : K.lookup a with
  | some o =>
    -- the script is one of the module's own objects
    have e := KX a o hk
    rw [ha] at e
    cases e
    refine core (fun _ => none) (fun _ => .inl rfl) (.inr ⟨_, vs.toArray, _, hk, rfl, rfl, rfl, by rw [List.size_toArray, lenV]; exact hl, by simpa using rv⟩) (fun b u z => by have z' : (none : Option HO) = some u := z; cases z') (fun b z => absurd rfl z) fun z => absurd rfl z
  | none =>
    refine core (fun b => if b = a then some (.frz { cls := .type "list", data := .seq vs.toArray } (.lst (ns.map V.int))) else none) (fun b => ?_) (.inl (.inr ⟨{ cls := .type "list", data := .seq vs.toArray }, if_pos rfl⟩)) (fun b u z => ?_) (fun b z => ?_) fun _ => hk
    · by_cases hb : b = a
      · exact .inr ⟨_, _, if_pos hb⟩
      · exact .inl (if_neg hb)
    · by_cases hb : b = a
      · have z' := (if_pos hb).symm.trans z
        cases z'
        subst hb
        exact ⟨ha, by rw [List.length_map]; exact hl, vs, _, rv, ha⟩
      · have z' := (if_neg hb).symm.trans z
        cases z'
    · by_cases hb : b = a
      · exact hb
      · exact absurd (if_neg hb) z

theorem walk_ofG {l : PySem.W.OpenLaw} {n : Nat} {q : Program} {loose : List Str} {XP : (Str → Option Value) → Heap → Prop} {YP : World → Heap → Prop} {d : DefRec} {x : Str}
    (hn : l.most = some n) (hn2 : n ≤ sizeLine) (hdf : d.params.defaults = [])
    (F : ∀ (w : World) (mg : Str → Option Value) (fa : Addr) (h : Heap), YP w h → h.Ns mainGlobals mg → mg d.name = some (.ref fa) →
      ∃ (K : PySem.W.Frag) (fd : FuncData) (sp : Sp), K.In h ∧ (∀ (s : Shared) (u : Value), BindsTo s fd ⟨[u], []⟩ [(x, u)]) ∧
        (∀ (H : Hp) (a : Addr) (ns : List Int), ns.length ≤ n → SqL K H a (ns.map V.int) → sp [.ref a] H (fun v _ => v = .bl true) fun _ _ _ => False) ∧
        ∀ base : Heap, K.In base → base.Ns mainGlobals mg → RunAt callerA l.prog w K mg base (L2.CX l.prog w) fa fd [x] sp) :
    PySem.W.WalkO q loose XP YP l.row.toRowW d [] (fun f vs => PySem.call f vs) := by
  refine Att.attach_call hn hdf fun w s₀ s₁ mg mb fa o pm cd doc a vs ns G Y ho hd hcd hmg hobj hints hlen hg => ?_
  obtain ⟨K, fd, sp, KX, hb, hsp, hF⟩ := F w mg fa _ Y G.T.g hmg
  exact law_runG KX G.T.g G.T.b G.T.builtins G.T.nolimit hg hobj hints (Nat.le_trans hlen hn2) hF hb (fun H _ hS => hsp H a ns hlen hS) fun H e s' c => by
    obtain ⟨_, _, _, _, _, _, _, _, _, _, _, _, z⟩ := c
    exact z
theorem walk_ofGK {l : PySem.W.OpenLaw} {n : Nat} {q : Program} {loose : List Str} {XP : (Str → Option Value) → Heap → Prop} {YP : World → Heap → Prop} {d : DefRec} {K : Params → PySem.W.Frag} {x : Str}
    (hn : l.most = some n) (hn2 : n ≤ sizeLine) (hdf : d.params.defaults = []) (hY : ∀ (w : World) (h : Heap), YP w h → (K w.params).In h)
    (F : ∀ (w : World) (mg : Str → Option Value) (fa : Addr) (h : Heap), (K w.params).In h → h.Ns mainGlobals mg → mg d.name = some (.ref fa) →
      ∃ (fd : FuncData) (sp : Sp), (∀ (s : Shared) (u : Value), BindsTo s fd ⟨[u], []⟩ [(x, u)]) ∧ (∀ (H : Hp) (a : Addr) (ns : List Int), ns.length ≤ n → SqL (K w.params) H a (ns.map V.int) → sp [.ref a] H (fun v _ => v = .bl true) fun _ _ _ => False) ∧
        ∀ base : Heap, (K w.params).In base → base.Ns mainGlobals mg → RunAt callerA l.prog w (K w.params) mg base (L2.CX l.prog w) fa fd [x] sp) : PySem.W.WalkO q loose XP YP l.row.toRowW d [] (fun f vs => PySem.call f vs) :=
  walk_ofG hn hn2 hdf fun w mg fa h Y G hmg => by
    obtain ⟨fd, sp, a, b, c⟩ := F w mg fa h (hY w h Y) G hmg
    exact ⟨K w.params, fd, sp, hY w h Y, a, b, c⟩
section
variable {P : Program} {w : World} {K : PySem.W.Frag} {mg : Str → Option Value} {base : Heap} {x qual : Str} {params : Arguments} {body : List Stmt} {scope : Scope} {dvs : List V} {kws : List (Str × V)} {f : Addr} {fd : FuncData} {cA : Str → Addr} {N ps : List Str} {k : Nat}
/-- the law's def: of the script, a list of ints; it comes to true -/
def SpLaw (K : PySem.W.Frag) (cA : Str → Addr) (R : List Int → Prop) : Sp := fun vs H Q E => ∃ ns G, R ns ∧ Sub G H ∧ RpAll K cA G vs [enc ns] ∧ ∀ H', Q (.bl true) H'
theorem run_law {g : List Int → M Bool} {R : List Int → Prop} (F : FunD K x qual params body scope dvs kws f fd) (S : FnScope N ps scope) (hn : ps.length = 1) (hr : Room (k + 1) callerA)
    (h : ∀ (cdv : Value) (A : Around) (outer : List Env) (s : Shared) (H : Hp) (E : XK), Room k (A.deeper (envOfC qual scope s.heap.objs.size f cdv)) → A.guards = some [] → ∀ (x1 : List Int),
      CS (cfgOf cA P w K mg base N qual scope f cdv A outer s H E) (noFm N.length) [] body (inFm N [enc x1]) [] (fun z => .fin (enc z) []) (g x1)) (hg : ∀ ns, R ns → g ns = .ok true) : RunAt callerA P w K mg base (L2.CX P w) f fd ps (SpLaw K cA R) := by
  obtain ⟨oc, od, dV, kV, doc, pm, an, cdv, ct, osl, rfl, lk, hcd, _, _⟩ := F.ex
  refine runAt_of lk hcd S (fun vs H Q E h => ?_) hr fun outer s H vs Q E hr hsp => ⟨wpSs _ body, pss_wp, ?_⟩
  · obtain ⟨ns, G, _, _, rp, _⟩ := h
    rw [rp.length, hn]; rfl
  · obtain ⟨ns, G, hR, sg, rp, p⟩ := hsp
    refine h cdv callerA outer s H E hr rfl ns H G G H (L2.start N vs) { nx := fun _ H' => Q .non H', rt := Q } (stt_start sg rp) ?_
    rw [hg ns hR]
    exact ⟨fun v G' H' σ Γ s r => by cases r; exact p H', fun e => nomatch e⟩
end
theorem ints_rp {K : PySem.W.Frag} {cA : Str → Addr} {G : Hp} : ∀ ns : List Int, RpAll K cA G (ns.map V.int) (encL ns)
  | [] => .nil
  | n :: ns => .cons (.int n) (ints_rp ns)
end Pf

/-! S1: texts as lists of code points: split and find at one sign. -/
namespace Tx
open PySem PySem.Spec L2
open PyProof.Rows hiding St
abbrev cs (x : Str) : List Nat := x.cps.toList
theorem str_ext {x y : Str} (h : cs x = cs y) : x = y := by
  obtain ⟨a⟩ := x
  obtain ⟨b⟩ := y
  exact congrArg Str.mk (Array.toList_inj.mp h)
abbrev mkS (l : List Nat) : Str := ⟨l.toArray⟩
theorem cs_mk (l : List Nat) : cs (mkS l) = l := by simp [cs, mkS]
theorem mk_cs (x : Str) : mkS (cs x) = x := str_ext (cs_mk _)
theorem cs_append (x y : Str) : cs (x ++ y) = cs x ++ cs y := by
  show (x.cps ++ y.cps).toList = _
  simp
theorem cs_length (x : Str) : (cs x).length = x.length := by simp [cs, Str.length]
/-- the pieces, joined by c -/
def jn (c : Nat) : List (List Nat) → List Nat
  | [] => []
  | [x] => x
  | x :: y :: r => x ++ c :: jn c (y :: r)
def splitL (c : Nat) : List Nat → List (List Nat)
  | [] => [[]]
  | a :: l => if a = c then [] :: splitL c l else match splitL c l with
    | p :: ps => (a :: p) :: ps
    | [] => [[a]]
theorem splitL_ne (c : Nat) (l : List Nat) : splitL c l ≠ [] := by
  cases l with
  | nil => exact fun h => nomatch h
  | cons a l =>
    unfold splitL
    split
    · exact fun h => nomatch h
    · split <;> exact fun h => nomatch h
theorem jn_splitL (c : Nat) : ∀ l : List Nat, jn c (splitL c l) = l
  | [] => rfl
  | a :: l => by
    have ih := jn_splitL c l
    have ne := splitL_ne c l
    unfold splitL
    split
    · rename_i e
      subst e
      cases h : splitL a l with
      | nil => exact absurd h ne
      | cons p ps =>
        rw [h] at ih
        show [] ++ a :: jn a (p :: ps) = _
        rw [ih]; rfl
    · cases h : splitL c l with
      | nil => exact absurd h ne
      | cons p ps =>
        rw [h] at ih
        cases ps with
        | nil =>
          have ih : p = l := ih
          show a :: p = _
          rw [ih]
        | cons q qs =>
          have ih : p ++ c :: jn c (q :: qs) = l := ih
          show (a :: p) ++ c :: jn c (q :: qs) = _
          rw [List.cons_append, ih]
theorem splitL_free (c : Nat) : ∀ (l : List Nat), ∀ p ∈ splitL c l, c ∉ p
  | [], p, h => by
    rw [List.mem_singleton.mp h]; exact fun z => nomatch z
  | a :: l, p, h => by
    have ih := splitL_free c l
    unfold splitL at h
    split at h
    · rcases List.mem_cons.mp h with h | h
      · rw [h]; exact fun z => nomatch z
      · exact ih p h
    · rename_i ne
      cases e : splitL c l with
      | nil => exact absurd e (splitL_ne c l)
      | cons q qs =>
        rw [e] at h ih
        rcases List.mem_cons.mp h with h | h
        · rw [h]
          intro z
          rcases List.mem_cons.mp z with z | z
          · exact ne z.symm
          · exact ih q List.mem_cons_self z
        · exact ih p (List.mem_cons_of_mem _ h)
theorem app_inj {c : Nat} : ∀ {x y r s : List Nat}, c ∉ x → c ∉ y → x ++ c :: r = y ++ c :: s → x = y ∧ r = s
  | [], [], r, s, _, _, h => ⟨rfl, by injection h⟩
  | [], b :: y, r, s, _, hy, h => by
    injection h with h1 _
    exact absurd (h1 ▸ List.mem_cons_self) hy
  | a :: x, [], r, s, hx, _, h => by
    injection h with h1 _
    exact absurd (h1 ▸ List.mem_cons_self) hx
  | a :: x, b :: y, r, s, hx, hy, h => by
    injection h with h1 h2
    obtain ⟨e1, e2⟩ := app_inj (fun z => hx (List.mem_cons_of_mem _ z)) (fun z => hy (List.mem_cons_of_mem _ z)) h2
    exact ⟨by rw [h1, e1], e2⟩
theorem jn_inj (c : Nat) : ∀ {ps qs : List (List Nat)}, ps ≠ [] → qs ≠ [] → (∀ p ∈ ps, c ∉ p) → (∀ q ∈ qs, c ∉ q) → jn c ps = jn c qs → ps = qs
  | [], _, h, _, _, _, _ => absurd rfl h
  | _ :: _, [], _, h, _, _, _ => absurd rfl h
  | [x], [y], _, _, _, _, h => by rw [show x = y from h]
  | [x], y :: z :: r, _, _, hx, _, h => by
    have h : x = y ++ c :: jn c (z :: r) := h
    exact absurd (by rw [h]; exact List.mem_append_right _ List.mem_cons_self) (hx x List.mem_cons_self)
  | x :: z :: r, [y], _, _, _, hy, h => by
    have h : x ++ c :: jn c (z :: r) = y := h
    exact absurd (by rw [← h]; exact List.mem_append_right _ List.mem_cons_self) (hy y List.mem_cons_self)
  | x :: x' :: r, y :: y' :: s, _, _, hx, hy, h => by
    obtain ⟨e1, e2⟩ := app_inj (hx x List.mem_cons_self) (hy y List.mem_cons_self) (show x ++ c :: jn c (x' :: r) = y ++ c :: jn c (y' :: s) from h)
    have ih := jn_inj c (ps := x' :: r) (qs := y' :: s) (fun z => nomatch z) (fun z => nomatch z) (fun p hp => hx p (List.mem_cons_of_mem _ hp)) (fun p hp => hy p (List.mem_cons_of_mem _ hp)) e2
    rw [e1, ih]
theorem cs_join (c : Nat) : ∀ ps : List Str, cs (Str.join ⟨#[c]⟩ ps) = jn c (ps.map cs)
  | [] => rfl
  | [x] => rfl
  | x :: y :: r => by
    show cs (x ++ ⟨#[c]⟩ ++ Str.join ⟨#[c]⟩ (y :: r)) = cs x ++ c :: jn c ((y :: r).map cs)
    rw [cs_append, cs_append, cs_join c (y :: r), List.append_assoc]
    rfl
theorem split_ne (x : Str) (c : Nat) : Txt.split x ⟨#[c]⟩ ≠ [] := by
  unfold Txt.split
  split
  · exact fun h => nomatch h
  · split
    · exact fun h => nomatch h
    · rw [StrLaws.partsBetween_eq]
      obtain ⟨p, r, h⟩ := StrLaws.partsFrom_ne x (⟨#[c]⟩ : Str).length 0 (PySem.Builtin.Str.occurrences x ⟨#[c]⟩ 0 x.length (x.length + 1))
      rw [h]
      exact fun h => nomatch h
/-- x.split(c) -/
theorem split_one (x : Str) (c : Nat) : (Txt.split x ⟨#[c]⟩).map cs = splitL c (cs x) := by
  refine jn_inj c (fun h => split_ne x c (List.map_eq_nil_iff.mp h)) (splitL_ne _ _) (fun p hp => ?_) (splitL_free c _) ?_
  · obtain ⟨q, hq, rfl⟩ := List.mem_map.mp hp
    exact StrLaws.split_free x c q hq
  · rw [← cs_join, StrLaws.join_split, jn_splitL]
theorem split_eq (x : Str) (c : Nat) : Txt.split x ⟨#[c]⟩ = (splitL c (cs x)).map mkS := by
  rw [← split_one, List.map_map]
  conv => lhs; rw [← List.map_id (Txt.split x ⟨#[c]⟩)]
  exact List.map_congr_left fun y _ => (mk_cs y).symm
theorem splitL_app (c : Nat) {x : List Nat} (h : c ∉ x) (l : List Nat) : splitL c (x ++ c :: l) = x :: splitL c l := by
  refine jn_inj c (splitL_ne _ _) (fun z => nomatch z) (splitL_free c _) (fun p hp => ?_) ?_
  · rcases List.mem_cons.mp hp with e | hp
    · rw [e]; exact h
    · exact splitL_free c _ p hp
  · rw [jn_splitL]
    cases e : splitL c l with
    | nil => exact absurd e (splitL_ne c l)
    | cons p ps =>
      show _ = x ++ c :: jn c (p :: ps)
      rw [← e, jn_splitL]
theorem splitL_none (c : Nat) {x : List Nat} (h : c ∉ x) : splitL c x = [x] := by
  refine jn_inj c (splitL_ne _ _) (fun z => nomatch z) (splitL_free c _) (fun p hp => ?_) ?_
  · rw [List.mem_singleton.mp hp]; exact h
  · rw [jn_splitL]; rfl
/-- x.find(c) -/
theorem find_one (x : Str) (c : Nat) : (c ∉ cs x ∧ Txt.find x ⟨#[c]⟩ = -1) ∨ ∃ a b, cs x = a ++ c :: b ∧ c ∉ a ∧ Txt.find x ⟨#[c]⟩ = (a.length : Int) := by
  have at_iff : ∀ i, StrLaws.At x ⟨#[c]⟩ x.length i ↔ (cs x)[i]? = some c := fun i => StrLaws.subAt_one x c i
  unfold Txt.find
  rcases StrLaws.occ_head x ⟨#[c]⟩ 1 (Nat.le_refl 1) with ⟨h, n⟩ | ⟨i, r, h, hi, n⟩
  · rw [h]
    refine .inl ⟨fun z => ?_, rfl⟩
    obtain ⟨i, hi⟩ := List.mem_iff_getElem?.mp z
    exact n i ((at_iff i).mpr hi)
  · rw [h]
    have hi := (at_iff i).mp hi
    obtain ⟨hl, he⟩ := List.getElem?_eq_some_iff.mp hi
    refine .inr ⟨(cs x).take i, (cs x).drop (i + 1), ?_, fun z => ?_, ?_⟩
    · conv => lhs; rw [← List.take_append_drop i (cs x), List.drop_eq_getElem_cons hl, he]
    · obtain ⟨k, hk, e⟩ := List.mem_iff_getElem.mp z
      rw [List.length_take] at hk
      refine n k (by omega) ((at_iff k).mpr ?_)
      rw [List.getElem_take] at e
      rw [List.getElem?_eq_getElem (by omega), e]
    · show (i : Int) = _
      rw [List.length_take, Nat.min_eq_left (by omega)]
end Tx

/-! S2: that a plain result is a value with a property: the rules. -/
namespace Tx
open PySem PySem.Spec L2
open PyProof.Rows hiding St
open Pf
open M (need some!)
/-- m is a value, and P holds of it -/
def Ok {α : Type} (m : M α) (P : α → Prop) : Prop := ∃ x, m = .ok x ∧ P x
section
variable {α β γ S O : Type} {m : M α} {P P' : α → Prop} {Q : β → Prop}
theorem Ok.bind {k : α → M β} (h : Ok m P) (hk : ∀ x, P x → Ok (k x) Q) : Ok (m.bind k) Q := by
  obtain ⟨x, rfl, hx⟩ := h
  exact hk x hx
theorem Ok.pure {x : α} (h : P x) : Ok (.ok x) P := ⟨x, rfl, h⟩
theorem Ok.imp (h : Ok m P) (q : ∀ x, P x → P' x) : Ok m P' := by
  obtain ⟨x, e, hx⟩ := h
  exact ⟨x, e, q x hx⟩
theorem Ok.need {c : Bool} (hc : c = true) (h : Ok m P) : Ok (need c m) P := by
  rw [M.need_true _ hc]; exact h
theorem Ok.needD {p : Prop} [Decidable p] (hc : p) (h : Ok m P) : Ok (M.need (decide p) m) P := Ok.need (decide_eq_true hc) h
theorem Ok.ite {c : Prop} [Decidable c] {a b : M α} (h1 : c → Ok a P) (h2 : ¬c → Ok b P) : Ok (if c then a else b) P := by
  by_cases h : c
  · rw [if_pos h]; exact h1 h
  · rw [if_neg h]; exact h2 h
theorem Ok.eq {x : α} (h : m = .ok x) (hx : P x) : Ok m P := ⟨x, h, hx⟩
theorem Ok.is {x : α} (h : Ok m fun y => y = x) : m = .ok x := by
  obtain ⟨y, e, rfl⟩ := h
  exact e
theorem ixN_ok {n : Nat} {i : Int} (h0 : 0 ≤ i) (h1 : i < n) : ixN n i = some i.toNat := by
  unfold ixN
  rw [if_pos h0, if_pos h1]
theorem atI_ok {xs : List α} {i : Int} (h0 : 0 ≤ i) (h1 : i < xs.length) : atI xs i = some (xs[i.toNat]'(by omega)) := by
  unfold atI
  rw [ixN_ok h0 h1]
  show xs[i.toNat]? = _
  exact List.getElem?_eq_getElem (by omega)
theorem Ok.idx {xs : List α} {i : Int} (h0 : 0 ≤ i) (h1 : i < xs.length) : Ok (Pf.idx xs i) fun x => xs[i.toNat]? = some x := by
  unfold Pf.idx
  rw [atI_ok h0 h1]
  exact ⟨_, rfl, List.getElem?_eq_getElem (by omega)⟩
theorem Ok.idxM {xs : List α} {i : Int} (h0 : 0 ≤ i) (h1 : i < xs.length) : Ok (Pf.idx xs i) fun x => x ∈ xs := (Ok.idx h0 h1).imp fun _ h => List.mem_of_getElem? h
theorem Ok.foldM {f : S → α → M S} {I : Nat → S → Prop} : ∀ {xs : List α} {s : S} {n : Nat}, I n s → (∀ k s x, k < xs.length → xs[k]? = some x → I (n + k) s → Ok (f s x) (I (n + k + 1))) → Ok (Pf.foldM f s xs) (I (n + xs.length))
  | [], s, n, h, _ => ⟨s, rfl, h⟩
  | x :: xs, s, n, h, hf => by
    refine Ok.bind (hf 0 s x (Nat.zero_lt_succ _) rfl h) fun s' hs => ?_
    have := Ok.foldM (f := f) (I := I) (xs := xs) (s := s') (n := n + 1) hs fun k s y hk e hi => by
      have := hf (k + 1) s y (Nat.succ_lt_succ hk) (by simpa using e) (by rw [show n + (k + 1) = n + 1 + k by omega]; exact hi)
      rw [show n + (k + 1) + 1 = n + 1 + k + 1 by omega] at this
      exact this
    rw [show n + 1 + xs.length = n + (x :: xs).length by simp; omega] at this
    exact this
theorem Ok.mapM {f : α → M β} : ∀ {xs : List α}, (∀ x ∈ xs, Ok (f x) Q) → Ok (Pf.mapM f xs) fun ys => ys.length = xs.length ∧ ∀ y ∈ ys, Q y
  | [], _ => ⟨[], rfl, rfl, fun _ h => nomatch h⟩
  | x :: xs, h => by
    obtain ⟨y, e, hy⟩ := h x List.mem_cons_self
    obtain ⟨ys, e2, h1, h2⟩ := Ok.mapM (f := f) (xs := xs) fun z hz => h z (List.mem_cons_of_mem _ hz)
    refine ⟨y :: ys, ?_, congrArg (· + 1) h1, fun z hz => ?_⟩
    · unfold Pf.mapM
      rw [e, e2]; rfl
    · rcases List.mem_cons.mp hz with rfl | hz
      · exact hy
      · exact h2 z hz
theorem Ok.whileS {mc : S → M Bool} {mb : S → M S} {I : S → Prop} {R : S → Prop} (v : S → Nat) : ∀ (n : Nat) (s : S), v s < n → I s → (∀ s, I s → Ok (mc s) fun t => (t = true → Ok (mb s) fun s' => I s' ∧ v s' < v s) ∧ (t = false → R s)) → Ok (Pf.whileS mc mb n s) R
  | 0, s, h, _, _ => absurd h (Nat.not_lt_zero _)
  | n + 1, s, h, hi, hb => by
    unfold Pf.whileS
    refine Ok.bind (hb s hi) fun t ht => ?_
    cases t with
    | false => exact ⟨s, rfl, ht.2 rfl⟩
    | true =>
      show Ok ((mb s).bind fun s' => Pf.whileS mc mb n s') R
      refine Ok.bind (ht.1 rfl) fun s' hs => ?_
      exact Ok.whileS v n s' (by omega) hs.1 hb
theorem FUEL_big {n : Nat} (h : n < 1000000000) : n < FUEL := by unfold FUEL; exact h
end
theorem rangeL_len (a b : Int) : (rangeL a b).length = (b - a).toNat := by unfold rangeL; rw [List.length_map, List.length_range]
theorem rangeL_get {a b : Int} {k : Nat} {x : Int} (h : (rangeL a b)[k]? = some x) : x = a + k ∧ k < (b - a).toNat := by
  unfold rangeL at h
  rw [List.getElem?_map] at h
  cases e : (List.range (b - a).toNat)[k]? with
  | none => rw [e] at h; cases h
  | some j =>
    rw [e] at h
    have hk := (List.getElem?_eq_some_iff.mp e).1
    rw [List.length_range] at hk
    rw [List.getElem?_range hk] at e
    cases e
    cases h
    exact ⟨rfl, hk⟩
theorem rangeL_mem {a b x : Int} (h : x ∈ rangeL a b) : a ≤ x ∧ x < b := by
  obtain ⟨k, hk⟩ := List.mem_iff_getElem?.mp h
  obtain ⟨rfl, h2⟩ := rangeL_get hk
  omega
theorem inR_of {a b : Int} (h1 : -4611686018427387904 ≤ a) (h2 : a < 4611686018427387904) (h3 : -4611686018427387904 ≤ b) (h4 : b < 4611686018427387904) (h5 : b - a ≤ 16777216) : Pf.inR a b = true := by
  unfold Pf.inR
  exact decide_eq_true ⟨h1, h2, h3, h4, h5⟩
theorem Ok.range {a b : Int} (h1 : -1000000 ≤ a) (h2 : a < 1000000) (h3 : -1000000 ≤ b) (h4 : b < 1000000) : Ok (M.need (Pf.inR a b) (.ok (rangeL a b))) fun xs => xs = rangeL a b :=
  Ok.need (inR_of (by omega) (by omega) (by omega) (by omega) (by omega)) ⟨_, rfl, rfl⟩
theorem Ok.mulI {x y : Int} (h : -1000000 ≤ x ∧ x ≤ 1000000) : Ok (Pf.mulI x y) fun z => z = x * y := by
  unfold Pf.mulI
  refine Ok.need ?_ ⟨_, rfl, rfl⟩
  rw [Bool.or_eq_true]
  refine .inl (decide_eq_true ?_)
  unfold w64
  omega
theorem Ok.divI {x y : Int} (h : 0 < y ∧ y < 1073741824) : Ok (Pf.divI x y) fun z => z = x / y := Ok.needD h ⟨_, rfl, rfl⟩
theorem Ok.modI {x y : Int} (h : 0 < y) : Ok (Pf.modI x y) fun z => z = x % y := Ok.needD h ⟨_, rfl, rfl⟩
theorem Ok.catS {x y : Str} (h : x.length + y.length ≤ 1000000) : Ok (Pf.catS x y) fun z => z = x ++ y := Ok.needD (by unfold sizeLine; omega) ⟨_, rfl, rfl⟩
theorem Ok.catL {α : Type} {x y : List α} (h : x.length + y.length ≤ 1000000) : Ok (Pf.catL x y) fun z => z = x ++ y := Ok.needD (by unfold sizeLine; omega) ⟨_, rfl, rfl⟩
theorem Ok.catT {α : Type} {x y : Tup α} (h : x.l.length + y.l.length ≤ 1000000) : Ok (Pf.catT x y) fun z => z = ⟨x.l ++ y.l⟩ := Ok.needD (by unfold sizeLine; omega) ⟨_, rfl, rfl⟩
end Tx

/-! S3: texts: parts, joins, repeats, lengths. -/
namespace Tx
open PySem PySem.Spec L2
open PyProof.Rows hiding St
open Pf
open M (need some!)
theorem sizeLine_big {n : Nat} (h : n ≤ 1000000) : n ≤ sizeLine := by unfold sizeLine; omega
theorem cs_cutTo (z : Str) (n : Nat) : cs (cutS z none (some (n : Int))) = (cs z).take n := by
  unfold cutS
  rw [cs_mk, HT.sIx_none, HT.sIx_nat, List.drop_zero, Nat.sub_zero]
  rw [List.take_eq_take_iff, cs_length]
  omega
theorem cs_cutFrom (z : Str) (n : Nat) : cs (cutS z (some (n : Int)) none) = (cs z).drop n := by
  unfold cutS
  rw [cs_mk, HT.sIx_none, HT.sIx_nat]
  rw [List.take_of_length_le (by rw [List.length_drop, cs_length]; omega)]
  by_cases h : n ≤ z.length
  · rw [Nat.min_eq_left h]
  · rw [Nat.min_eq_right (by omega), List.drop_of_length_le (by rw [cs_length]; omega), List.drop_of_length_le (by rw [cs_length]; omega)]
theorem cs_ch (x : Ch) : cs x.str = [x.code] := rfl
theorem Ok.idxS {z : Str} {i : Int} (h0 : 0 ≤ i) (h1 : i < (cs z).length) : Ok (Pf.idxS z i) fun c => (cs z)[i.toNat]? = some c.code := by
  unfold Pf.idxS
  rw [atI_ok h0 h1]
  exact ⟨_, rfl, List.getElem?_eq_getElem (by omega)⟩
theorem Ok.lenS {z : Str} (h : z.length ≤ 1000000) : Ok (M.need (decide (z.length ≤ sizeLine)) (.ok (z.length : Int))) fun n => n = ((cs z).length : Int) := Ok.needD (sizeLine_big h) ⟨_, rfl, by rw [cs_length]⟩
theorem str_join_empty : ∀ ys : List Str, cs (Str.join (⟨#[]⟩ : Str) ys) = (ys.map cs).flatten
  | [] => rfl
  | [x] => by simp [Str.join]
  | x :: y :: r => by
    show cs (x ++ (⟨#[]⟩ : Str) ++ Str.join ⟨#[]⟩ (y :: r)) = _
    rw [cs_append, cs_append, str_join_empty (y :: r)]
    simp
theorem lit_empty : (("" : Str)) = ⟨#[]⟩ := by decide +kernel
theorem lit_space : ((" " : Str)) = ⟨#[32]⟩ := by decide +kernel
theorem lit_colon : ((":" : Str)) = ⟨#[58]⟩ := by decide +kernel
theorem Ok.joinE {ys : List Str} (h : (ys.map (·.length)).sum ≤ 1000000) : Ok (Pf.joinS ("" : Str) ys) fun z => cs z = (ys.map cs).flatten := by
  unfold Pf.joinS
  refine Ok.needD ?_ ⟨_, rfl, ?_⟩
  · rw [lit_empty]; show _ + ys.length * 0 ≤ _; omega
  · show cs (Txt.join _ _) = _
    unfold Txt.join
    rw [StrLaws.glued_eq_join, lit_empty, str_join_empty]
theorem mul_one (c : Nat) (n : Int) : cs (Txt.mul ⟨#[c]⟩ n) = List.replicate n.toNat c := by
  unfold Txt.mul
  split
  · rename_i h
    rw [show n.toNat = 0 by omega]; rfl
  · rename_i h
    split
    · rename_i e
      rw [Bool.or_eq_true] at e
      rcases e with e | e
      · rw [beq_iff_eq] at e
        subst e; rfl
      · cases e
    · rw [cs]
      have : ∀ (k : Nat) (acc : Array Nat), ((List.replicate k (#[c] : Array Nat)).foldl (· ++ ·) acc).toList = acc.toList ++ List.replicate k c := by
        intro k
        induction k with
        | zero => intro acc; simp
        | succ k ih => intro acc; rw [List.replicate_succ, List.foldl_cons, ih, List.replicate_succ]; simp
      rw [this]; rfl
theorem Ok.spaces {n : Int} (h0 : 0 ≤ n) (h1 : n ≤ 1000) : Ok (Pf.mulS (" " : Str) n) fun z => cs z = List.replicate n.toNat 32 := by
  unfold Pf.mulS
  refine Ok.needD ⟨h0, by omega, ?_⟩ ⟨_, rfl, ?_⟩
  · rw [lit_space]; show 1 * n.toNat ≤ _; unfold sizeLine; omega
  · rw [lit_space]; exact mul_one 32 n
theorem Ok.splitOne {x : Str} {c : Nat} (h : x.length ≤ 1000000) : Ok (Pf.splitS x ⟨#[c]⟩) fun ys => ys = (splitL c (cs x)).map mkS := by
  unfold Pf.splitS
  refine Ok.need ?_ ⟨_, rfl, split_eq x c⟩
  rw [Bool.and_eq_true]
  exact ⟨rfl, decide_eq_true (by unfold sizeLine; omega)⟩
/-- the pieces that are not empty -/
def wordsL (c : Nat) (l : List Nat) : List (List Nat) := (splitL c l).filter fun p => !p.isEmpty
theorem wordsL_cons (c : Nat) (l : List Nat) : wordsL c (c :: l) = wordsL c l := by
  unfold wordsL
  have := splitL_app c (x := []) (fun z => nomatch z) l
  rw [show c :: l = [] ++ c :: l from rfl, this]
  rfl
theorem wordsL_rep (c : Nat) (n : Nat) (l : List Nat) : wordsL c (List.replicate n c ++ l) = wordsL c l := by
  induction n with
  | zero => rfl
  | succ n ih => rw [List.replicate_succ, List.cons_append, wordsL_cons, ih]
theorem wordsL_nil (c : Nat) : wordsL c [] = [] := rfl
theorem wordsL_word {c : Nat} {x : List Nat} (h : c ∉ x) (hx : x ≠ []) (l : List Nat) : wordsL c (x ++ c :: l) = x :: wordsL c l := by
  unfold wordsL
  rw [splitL_app c h, List.filter_cons_of_pos (by cases x <;> simp_all)]
theorem wordsL_one {c : Nat} {x : List Nat} (h : c ∉ x) (hx : x ≠ []) : wordsL c x = [x] := by
  unfold wordsL
  rw [splitL_none c h, List.filter_cons_of_pos (by cases x <;> simp_all)]
  rfl
end Tx

/-! the text of the law: mirrors and walks (printed by pygen.py) -/
namespace Cl
open PySem PySem.Spec L2 Pf
open PyProof.Rows hiding St
open M (need some!)
def topS (i : Nat) : Stmt := PySem.Challenge.pw_fewestheld_k59_words_of_a_session.main.body.getD i (.Pass ⟨0, 0, 0, 0⟩)
abbrev FnP (K : PySem.W.Frag) (x q : Str) (st : Stmt) (f : Addr) (fd : FuncData) : Prop := FunD K x q (defArgs st) (defBody st) (defScope st) [] [] f fd
def t_FORMS : List (Str × Int) := [("book", 1), ("undo", 0), ("redo", 0), ("drop", 1), ("answer", 1), ("answers", 0), ("print", 1), ("read", 1), ("books", 0), ("questions", 0)]
def t_ASKED : List (Str × Int) := [("alike", 2), ("ever", 1), ("places", 1)]
def m_is_name (text_0 : Str) : M Bool :=
  (((((need (decide (text_0.length ≤ sizeLine)) (.ok (text_0.length : Int))).bind fun (r_0 : Int) => .ok ((decide (1 ≤ r_0) && decide (r_0 ≤ 12)))).bind fun (r_1 : Bool) => .ok ((!r_1))).bind fun (r_3 : Bool) => if r_3 = true then .ok true else (need (decide (text_0.length ≤ sizeLine)) (idxS text_0 0)).bind fun (r_2 : Ch) => .ok ((decide (r_2.code ∈ ("0123456789" : Str).cps.toList))))).bind fun (r_7 : Bool) => if r_7 = true then
    .ok false
  else
  (((need (decide (text_0.length ≤ sizeLine)) (.ok (Pf.signs text_0))).bind fun (r_4 : (List Ch)) => .ok ((r_4.map (fun (e_0 : Ch) => (decide (e_0.code ∈ ("abcdefghijklmnopqrstuvwxyz0123456789" : Str).cps.toList)))))).bind fun (r_5 : (List Bool)) => .ok ((r_5.all id))).bind fun (r_6 : Bool) => .ok (r_6)
def m_split_words (line_0 : Str) : M (List Str) :=
  ((splitS line_0 (" " : Str)).bind fun (r_0 : (List Str)) => .ok (((r_0.filter (fun (e_0 : Str) => (!decide (e_0 = ("" : Str))))).map (fun (e_0 : Str) => e_0)))).bind fun (r_1 : (List Str)) => .ok (r_1)
def m_row_of_b1  (s_0 : (List (Str × Str))) (e_0 : Str) : M (Fl (List (Str × Str)) (Option (List (Str × Str)))) :=
  (splitS e_0 (":" : Str)).bind fun (parts_0 : (List Str)) =>
  ((if (!decide ((parts_0.length : Int) = 2)) = true then .ok true else ((mapM (fun (e_1 : Str) => m_is_name e_1) parts_0).bind fun (r_0 : (List Bool)) => .ok ((r_0.all id))).bind fun (r_1 : Bool) => .ok ((!r_1)))).bind fun (r_4 : Bool) => if r_4 = true then
    .ok (Fl.out (none : (Option (List (Str × Str)))))
  else
  ((idx parts_0 0).bind fun (r_2 : Str) => (idx parts_0 1).bind fun (r_3 : Str) => .ok ((r_2, r_3))).bind fun (y_0 : (Str × Str)) =>
  need (decide (s_0.length < sizeLine)) <|
  .ok (Fl.nx (s_0 ++ [y_0]))
def m_row_of (words_0 : (List Str)) : M (Option (List (Str × Str))) :=
  let found_0 : (List (Str × Str)) := ([] : (List (Str × Str)))
  (loopM m_row_of_b1 found_0 words_0).bind fun j => j.then fun (s_0 : (List (Str × Str))) =>
  .ok (some s_0 : (Option (List (Str × Str))))
def m_is_command (words_0 : (List Str)) : M Bool :=
  (idx words_0 0).bind fun (first_0 : Str) =>
  let rest_0 : (List Str) := (cutL words_0 (some 1) none)
  if (decide (first_0 = ("read" : Str))) = true then
    ((if (decide (0 < (rest_0.length : Int))) = true then (((idx rest_0 0).bind fun (r_0 : Str) => m_is_name r_0).bind fun (r_2 : Bool) => if r_2 = true then (m_row_of (cutL rest_0 (some 1) none)).bind fun (r_1 : (Option (List (Str × Str)))) => .ok (r_1.isSome) else .ok false) else .ok false)).bind fun (r_3 : Bool) => .ok (r_3)
  else
  if ((t_FORMS.any fun q => decide (q.1 = first_0))) = true then
    ((((some! (t_FORMS.lookup first_0)).bind fun (r_4 : Int) => .ok ((decide ((rest_0.length : Int) = r_4)))).bind fun (r_6 : Bool) => if r_6 = true then (mapM (fun (e_0 : Str) => m_is_name e_0) rest_0).bind fun (r_5 : (List Bool)) => .ok ((r_5.all id)) else .ok false)).bind fun (r_7 : Bool) => .ok (r_7)
  else
  if (decide (first_0 = ("ask" : Str))) = true then
    ((if (decide ((rest_0.length : Int) < 2)) = true then .ok true else (idx rest_0 1).bind fun (r_8 : Str) => .ok ((!(t_ASKED.any fun q => decide (q.1 = r_8)))))).bind fun (r_15 : Bool) => if r_15 = true then
      .ok false
    else
    ((((((idx rest_0 1).bind fun (r_9 : Str) => some! (t_ASKED.lookup r_9)).bind fun (r_10 : Int) => .ok ((2 + r_10))).bind fun (r_11 : Int) => .ok ((decide ((rest_0.length : Int) = r_11)))).bind fun (r_13 : Bool) => if r_13 = true then (mapM (fun (e_1 : Str) => m_is_name e_1) rest_0).bind fun (r_12 : (List Bool)) => .ok ((r_12.all id)) else .ok false)).bind fun (r_14 : Bool) => .ok (r_14)
  else
  if (decide (first_0 = ("set" : Str))) = true then
    ((if (decide ((rest_0.length : Int) = 3)) = true then (((idx rest_0 0).bind fun (r_16 : Str) => m_is_name r_16).bind fun (r_20 : Bool) => if r_20 = true then (((idx rest_0 1).bind fun (r_17 : Str) => m_is_name r_17).bind fun (r_19 : Bool) => if r_19 = true then (idx rest_0 2).bind fun (r_18 : Str) => .ok ((memB r_18 (⟨[("yes" : Str), ("no" : Str)]⟩ : (Tup Str)).l)) else .ok false) else .ok false) else .ok false)).bind fun (r_21 : Bool) => .ok (r_21)
  else
  ((if (decide (first_0 = ("remove" : Str))) = true then (if (decide ((rest_0.length : Int) = 1)) = true then (idx rest_0 0).bind fun (r_22 : Str) => m_is_name r_22 else .ok false) else .ok false)).bind fun (r_23 : Bool) => .ok (r_23)
def m_q_row_b1 (cell_0 : Int) (s_0 : ((List Int) × Int × Int)) (e_0 : Int) : M ((List Int) × Int × Int) :=
  let mixed_1 : Int := (((s_0.2.2 * 16807) + (271 * (e_0 + 3))) % 2147483629)
  if (decide (1000000000000000000 ≤ (absI cell_0))) = true then
    let y_0 : Int := (s_0.2.1 % 1009)
    need (decide (s_0.1.length < sizeLine)) <|
    let rest_1 : Int := (s_0.2.1 / 1009)
    .ok ((s_0.1 ++ [y_0]), rest_1, mixed_1)
  else
    let y_1 : Int := ((mixed_1 / 7) % 1009)
    need (decide (s_0.1.length < sizeLine)) <|
    .ok ((s_0.1 ++ [y_1]), s_0.2.1, mixed_1)
def m_q_row (cell_0 : Int) (many_0 : Int) : M (List Int) :=
  let row_here_0 : (List Int) := ([] : (List Int))
  let rest_0 : Int := (absI cell_0)
  let mixed_0 : Int := (((rest_0 * 48271) + 69621) % 2147483647)
  (need (inR 0 many_0) (.ok (rangeL 0 many_0))).bind fun (r_0 : (List Int)) => (foldM (m_q_row_b1 cell_0) (row_here_0, rest_0, mixed_0) r_0).bind fun (s_0 : ((List Int) × Int × Int)) =>
  .ok s_0.1
def m_q_numbers_b1  (s_1 : (List Int)) (e_1 : Int) : M (List Int) :=
  let y_0 : Int := e_1
  need (decide (s_1.length < sizeLine)) <|
  .ok (s_1 ++ [y_0])
def m_q_numbers_b2 (each_0 : Int) (s_0 : (List Int)) (e_0 : Int) : M (List Int) :=
  (m_q_row e_0 each_0).bind fun (r_1 : (List Int)) => (foldM m_q_numbers_b1 s_0 r_1).bind fun (s_1 : (List Int)) =>
  .ok s_1
def m_q_numbers_b3  (s_2 : (List Int)) : M (List Int) :=
  let y_1 : Int := 0
  need (decide (s_2.length < sizeLine)) <|
  .ok (s_2 ++ [y_1])
def m_q_numbers (script_0 : (List Int)) (many_0 : Int) : M (List Int) :=
  let cells_0 : (List Int) := (cutL script_0 none (some 63))
  ((divI many_0 (maxI 1 (cells_0.length : Int))).bind fun (r_0 : Int) => .ok ((1 + r_0))).bind fun (each_0 : Int) =>
  let numbers_here_0 : (List Int) := ([] : (List Int))
  (foldM (m_q_numbers_b2 each_0) numbers_here_0 cells_0).bind fun (s_0 : (List Int)) =>
  (whileS (fun (s_2 : (List Int)) => .ok (decide ((s_2.length : Int) < many_0))) m_q_numbers_b3 FUEL s_0).bind fun (s_2 : (List Int)) =>
  .ok (cutL s_2 none (some many_0))
def m_q_word (number_0 : Int) (more_0 : Int) : M Str :=
  let words_0 : (Tup Str) := (⟨[("book" : Str), ("undo" : Str), ("redo" : Str), ("drop" : Str), ("answer" : Str), ("answers" : Str), ("print" : Str), ("read" : Str), ("books" : Str), ("questions" : Str), ("ask" : Str), ("set" : Str), ("remove" : Str)]⟩ : (Tup Str))
  (catT words_0 (⟨[("alike" : Str), ("ever" : Str), ("places" : Str), ("yes" : Str), ("no" : Str), ("end" : Str), ("7" : Str)]⟩ : (Tup Str))).bind fun (words_1 : (Tup Str)) =>
  let letters_0 : Str := ("abcdefghijklmnopqrstuvwxyz0123456789" : Str)
  if (decide ((number_0 % 4) = 0)) = true then
    (idx words_1.l ((number_0 / 4) % 20)).bind fun (r_0 : Str) => .ok (r_0)
  else
  let size_0 : Int := ((number_0 / 4) % 7)
  (((need (decide (letters_0.length ≤ sizeLine)) (idxS letters_0 (more_0 % 36))).bind fun (r_1 : Ch) => .ok (r_1.str)).bind fun (r_10 : Str) => (((need (inR 0 (size_0 * 2)) (.ok (rangeL 0 (size_0 * 2)))).bind fun (r_8 : (List Int)) => mapM (fun (e_0 : Int) => ((((((mulI (11 * e_0) number_0).bind fun (r_2 : Int) => .ok ((more_0 + r_2))).bind fun (r_3 : Int) => .ok ((r_3 + e_0))).bind fun (r_4 : Int) => .ok (r_4)).bind fun (r_5 : Int) => .ok ((r_5 % 36))).bind fun (r_6 : Int) => need (decide (letters_0.length ≤ sizeLine)) (idxS letters_0 r_6)).bind fun (r_7 : Ch) => .ok (r_7.str)) r_8).bind fun (r_9 : (List Str)) => joinS ("" : Str) r_9).bind fun (r_11 : Str) => catS r_10 r_11).bind fun (word_here_0 : Str) =>
  if (decide ((number_0 % 4) = 1)) = true then
    (((need (decide (word_here_0.length ≤ sizeLine)) (.ok (cutS word_here_0 none (some 3)))).bind fun (r_12 : Str) => (idx (⟨[(":" : Str), (":a" : Str), ("::b" : Str), (":1" : Str), (":a:b" : Str)]⟩ : (Tup Str)).l (more_0 % 5)).bind fun (r_13 : Str) => catS r_12 r_13).bind fun (r_14 : Str) => (need (decide (word_here_0.length ≤ sizeLine)) (.ok (cutS word_here_0 none (some 2)))).bind fun (r_15 : Str) => catS r_14 r_15).bind fun (r_16 : Str) => .ok (r_16)
  else
  if (decide ((more_0 % 9) = 0)) = true then
    (((need (decide (word_here_0.length ≤ sizeLine)) (.ok (cutS word_here_0 none (some 2)))).bind fun (r_17 : Str) => catS r_17 ("_" : Str)).bind fun (r_18 : Str) => (need (decide (word_here_0.length ≤ sizeLine)) (.ok (cutS word_here_0 (some 2) none))).bind fun (r_19 : Str) => catS r_18 r_19).bind fun (r_20 : Str) => .ok (r_20)
  else
  .ok word_here_0
def m_q_is_name (word_here_0 : Str) : M Bool :=
  ((((need (decide (word_here_0.length ≤ sizeLine)) (.ok (word_here_0.length : Int))).bind fun (r_0 : Int) => .ok ((decide (r_0 < 1)))).bind fun (r_4 : Bool) => if r_4 = true then .ok true else (((need (decide (word_here_0.length ≤ sizeLine)) (.ok (word_here_0.length : Int))).bind fun (r_1 : Int) => .ok ((decide (12 < r_1)))).bind fun (r_3 : Bool) => if r_3 = true then .ok true else (need (decide (word_here_0.length ≤ sizeLine)) (idxS word_here_0 0)).bind fun (r_2 : Ch) => .ok ((!decide (r_2.code ∈ ("abcdefghijklmnopqrstuvwxyz" : Str).cps.toList)))))).bind fun (r_8 : Bool) => if r_8 = true then
    .ok false
  else
  (((need (decide (word_here_0.length ≤ sizeLine)) (.ok (Pf.signs word_here_0))).bind fun (r_5 : (List Ch)) => .ok ((r_5.map (fun (e_0 : Ch) => (decide (e_0.code ∈ ("abcdefghijklmnopqrstuvwxyz0123456789" : Str).cps.toList)))))).bind fun (r_6 : (List Bool)) => .ok ((r_6.all id))).bind fun (r_7 : Bool) => .ok (r_7)
def m_q_all_names (words_0 : (List Str)) : M Bool :=
  ((mapM (fun (e_0 : Str) => m_q_is_name e_0) words_0).bind fun (r_0 : (List Bool)) => .ok ((r_0.all id))).bind fun (r_1 : Bool) => .ok (r_1)
def m_q_row_due_b1  (s_0 : (List (Str × Str))) (e_0 : Str) : M (Fl (List (Str × Str)) (Option (List (Str × Str)))) :=
  let spot_0 : Int := (Txt.find e_0 (":" : Str))
  ((if (decide (spot_0 < 0)) = true then .ok true else ((((need (decide (e_0.length ≤ sizeLine)) (.ok (cutS e_0 none (some spot_0)))).bind fun (r_0 : Str) => m_q_is_name r_0).bind fun (r_1 : Bool) => .ok ((!r_1))).bind fun (r_4 : Bool) => if r_4 = true then .ok true else ((need (decide (e_0.length ≤ sizeLine)) (.ok (cutS e_0 (some (spot_0 + 1)) none))).bind fun (r_2 : Str) => m_q_is_name r_2).bind fun (r_3 : Bool) => .ok ((!r_3))))).bind fun (r_7 : Bool) => if r_7 = true then
    .ok (Fl.out (none : (Option (List (Str × Str)))))
  else
  ((need (decide (e_0.length ≤ sizeLine)) (.ok (cutS e_0 none (some spot_0)))).bind fun (r_5 : Str) => (need (decide (e_0.length ≤ sizeLine)) (.ok (cutS e_0 (some (spot_0 + 1)) none))).bind fun (r_6 : Str) => .ok ((r_5, r_6))).bind fun (y_0 : (Str × Str)) =>
  need (decide (s_0.length < sizeLine)) <|
  .ok (Fl.nx (s_0 ++ [y_0]))
def m_q_row_due (words_0 : (List Str)) : M (Option (List (Str × Str))) :=
  let row_here_0 : (List (Str × Str)) := ([] : (List (Str × Str)))
  (loopM m_q_row_due_b1 row_here_0 words_0).bind fun j => j.then fun (s_0 : (List (Str × Str))) =>
  .ok (some s_0 : (Option (List (Str × Str))))
def m_q_command (words_0 : (List Str)) : M Bool :=
  (idx words_0 0).bind fun (first_0 : Str) =>
  let rest_0 : (List Str) := (cutL words_0 (some 1) none)
  if (decide (first_0 = ("read" : Str))) = true then
    ((if (decide (0 < (rest_0.length : Int))) = true then (((idx rest_0 0).bind fun (r_0 : Str) => m_q_is_name r_0).bind fun (r_2 : Bool) => if r_2 = true then (m_q_row_due (cutL rest_0 (some 1) none)).bind fun (r_1 : (Option (List (Str × Str)))) => .ok (r_1.isSome) else .ok false) else .ok false)).bind fun (r_3 : Bool) => .ok (r_3)
  else
  if (memB first_0 (⟨[("undo" : Str), ("redo" : Str), ("answers" : Str), ("books" : Str), ("questions" : Str)]⟩ : (Tup Str)).l) = true then
    .ok (decide ((rest_0.length : Int) = 0))
  else
  if (memB first_0 (⟨[("book" : Str), ("drop" : Str), ("answer" : Str), ("print" : Str), ("remove" : Str)]⟩ : (Tup Str)).l) = true then
    ((if (decide ((rest_0.length : Int) = 1)) = true then (idx rest_0 0).bind fun (r_4 : Str) => m_q_is_name r_4 else .ok false)).bind fun (r_5 : Bool) => .ok (r_5)
  else
  if (decide (first_0 = ("set" : Str))) = true then
    ((if (decide ((rest_0.length : Int) = 3)) = true then ((m_q_all_names (cutL rest_0 none (some 2))).bind fun (r_7 : Bool) => if r_7 = true then (idx rest_0 2).bind fun (r_6 : Str) => .ok ((memB r_6 (⟨[("yes" : Str), ("no" : Str)]⟩ : (Tup Str)).l)) else .ok false) else .ok false)).bind fun (r_8 : Bool) => .ok (r_8)
  else
  ((if (!decide (first_0 = ("ask" : Str))) = true then .ok true else (if (decide ((rest_0.length : Int) < 3)) = true then .ok true else (m_q_all_names rest_0).bind fun (r_9 : Bool) => .ok ((!r_9))))).bind fun (r_13 : Bool) => if r_13 = true then
    .ok false
  else
  (((idx rest_0 1).bind fun (r_10 : Str) => .ok ((r_10, (rest_0.length : Int)))).bind fun (r_11 : (Str × Int)) => .ok ((memB r_11 (⟨[(("alike" : Str), 4), (("ever" : Str), 3), (("places" : Str), 3)]⟩ : (Tup (Str × Int))).l))).bind fun (r_12 : Bool) => .ok (r_12)
def m_q_formed (numbers_here_0 : (List Int)) (words_0 : (List Str)) : M (List Str) :=
  ((compM (fun (e_0 : Str) => m_q_is_name e_0) (fun (e_0 : Str) => .ok e_0) words_0).bind fun (r_0 : (List Str)) => catL r_0 [("a" : Str), ("b" : Str), ("c" : Str)]).bind fun (names_0 : (List Str)) =>
  (((idx numbers_here_0 42).bind fun (r_1 : Int) => .ok (r_1)).bind fun (r_2 : Int) => .ok ((r_2 % 12))).bind fun (kind_0 : Int) =>
  if (decide (kind_0 < 5)) = true then
    (((idx (⟨[("undo" : Str), ("redo" : Str), ("answers" : Str), ("books" : Str), ("questions" : Str)]⟩ : (Tup Str)).l kind_0).bind fun (r_3 : Str) => .ok ([r_3]))).bind fun (r_4 : (List Str)) => .ok (r_4)
  else
  if (decide (kind_0 < 7)) = true then
    ((((((idx numbers_here_0 43).bind fun (r_5 : Int) => .ok (r_5)).bind fun (r_6 : Int) => .ok ((r_6 % 5))).bind fun (r_7 : Int) => idx (⟨[("book" : Str), ("drop" : Str), ("answer" : Str), ("print" : Str), ("remove" : Str)]⟩ : (Tup Str)).l r_7).bind fun (r_8 : Str) => (idx names_0 0).bind fun (r_9 : Str) => .ok ([r_8, r_9]))).bind fun (r_10 : (List Str)) => .ok (r_10)
  else
  if (decide (kind_0 = 7)) = true then
    (((idx names_0 0).bind fun (r_14 : Str) => (idx names_0 1).bind fun (r_15 : Str) => ((((idx numbers_here_0 43).bind fun (r_11 : Int) => .ok (r_11)).bind fun (r_12 : Int) => .ok ((r_12 % 2))).bind fun (r_13 : Int) => idx (⟨[("yes" : Str), ("no" : Str)]⟩ : (Tup Str)).l r_13).bind fun (r_16 : Str) => .ok ([("set" : Str), r_14, r_15, r_16]))).bind fun (r_17 : (List Str)) => .ok (r_17)
  else
  if (decide (kind_0 = 8)) = true then
    (((idx names_0 0).bind fun (r_18 : Str) => (idx names_0 1).bind fun (r_19 : Str) => (idx names_0 2).bind fun (r_20 : Str) => .ok ([("ask" : Str), r_18, ("alike" : Str), r_19, r_20]))).bind fun (r_21 : (List Str)) => .ok (r_21)
  else
  if (decide (kind_0 = 9)) = true then
    (((idx names_0 0).bind fun (r_25 : Str) => ((((idx numbers_here_0 43).bind fun (r_22 : Int) => .ok (r_22)).bind fun (r_23 : Int) => .ok ((r_23 % 2))).bind fun (r_24 : Int) => idx (⟨[("ever" : Str), ("places" : Str)]⟩ : (Tup Str)).l r_24).bind fun (r_26 : Str) => (idx names_0 1).bind fun (r_27 : Str) => .ok ([("ask" : Str), r_25, r_26, r_27]))).bind fun (r_28 : (List Str)) => .ok (r_28)
  else
  ((((idx names_0 0).bind fun (r_29 : Str) => .ok ([("read" : Str), r_29]))).bind fun (r_38 : (List Str)) => (((((idx numbers_here_0 43).bind fun (r_30 : Int) => .ok (r_30)).bind fun (r_31 : Int) => .ok ((r_31 % 4))).bind fun (r_32 : Int) => need (inR 0 r_32) (.ok (rangeL 0 r_32))).bind fun (r_37 : (List Int)) => mapM (fun (e_1 : Int) => (((modI (e_1 + 1) (names_0.length : Int)).bind fun (r_33 : Int) => idx names_0 r_33).bind fun (r_34 : Str) => catS r_34 (":" : Str)).bind fun (r_35 : Str) => (idx names_0 (e_1 % 2)).bind fun (r_36 : Str) => catS r_35 r_36) r_37).bind fun (r_39 : (List Str)) => catL r_38 r_39).bind fun (r_40 : (List Str)) => .ok (r_40)
def m_law_b1 (numbers_here_0 : (List Int)) (s_0 : (List Str)) (s_4 : Str) (e_1 : Int) : M Str :=
  ((idx s_0 e_1).bind fun (r_28 : Str) => catS s_4 r_28).bind fun (text_1 : Str) =>
  if (decide ((e_1 + 1) < (s_0.length : Int))) = true then
    (((((((idx numbers_here_0 47).bind fun (r_30 : Int) => ((idx numbers_here_0 48).bind fun (r_29 : Int) => mulI e_1 r_29).bind fun (r_31 : Int) => .ok ((r_30 + r_31))).bind fun (r_32 : Int) => .ok (r_32)).bind fun (r_33 : Int) => .ok ((r_33 % 3))).bind fun (r_34 : Int) => .ok ((1 + r_34))).bind fun (r_35 : Int) => mulS (" " : Str) r_35).bind fun (r_36 : Str) => catS text_1 r_36).bind fun (text_2 : Str) =>
    .ok text_2
  else
    .ok text_1
def m_law_b2 (passed_0 : (List Str)) (s_0 : (List Str)) (s_5 : Unit) (e_2 : Int) : M (Fl Unit Bool) :=
  (((m_row_of (cutL passed_0 (some e_2) none)).bind fun (r_47 : (Option (List (Str × Str)))) => reprM r_47).bind fun (r_49 : Str) => ((m_q_row_due (cutL s_0 (some e_2) none)).bind fun (r_48 : (Option (List (Str × Str)))) => reprM r_48).bind fun (r_50 : Str) => .ok ((!decide (r_49 = r_50)))).bind fun (r_51 : Bool) => if r_51 = true then
    .ok (Fl.out false)
  else
    .ok (Fl.nx ())
def m_law (script_0 : (List Int)) : M Bool :=
  (m_q_numbers script_0 60).bind fun (numbers_here_0 : (List Int)) =>
  ((((((idx numbers_here_0 40).bind fun (r_0 : Int) => .ok (r_0)).bind fun (r_1 : Int) => .ok ((r_1 % 7))).bind fun (r_2 : Int) => .ok ((1 + r_2))).bind fun (r_3 : Int) => need (inR 0 r_3) (.ok (rangeL 0 r_3))).bind fun (r_6 : (List Int)) => mapM (fun (e_0 : Int) => (idx numbers_here_0 (2 * e_0)).bind fun (r_4 : Int) => (idx numbers_here_0 ((2 * e_0) + 1)).bind fun (r_5 : Int) => m_q_word r_4 r_5) r_6).bind fun (words_0 : (List Str)) =>
  ((((idx numbers_here_0 41).bind fun (r_7 : Int) => .ok (r_7)).bind fun (r_8 : Int) => .ok ((r_8 % 3))).bind fun (r_9 : Int) => .ok ((decide (0 < r_9)))).bind fun (r_59 : Bool) => ((if r_59 = true then
    (m_q_formed numbers_here_0 words_0).bind fun (line_0 : (List Str)) =>
    (((idx numbers_here_0 44).bind fun (r_10 : Int) => .ok (r_10)).bind fun (r_11 : Int) => modI r_11 (line_0.length : Int)).bind fun (place_0 : Int) =>
    ((((idx numbers_here_0 45).bind fun (r_12 : Int) => .ok (r_12)).bind fun (r_13 : Int) => .ok ((r_13 % 6))).bind fun (r_14 : Int) => .ok ((decide (r_14 = 0)))).bind fun (r_24 : Bool) => ((if r_24 = true then
      (idx words_0 0).bind fun (y_0 : Str) =>
      let k_0 : Int := place_0
      (some! (ixN line_0.length k_0)).bind fun q_0 =>
      let line_1 : (List Str) := line_0.set q_0 y_0
      .ok line_1
    else
      .ok line_0) : M (List Str)).bind fun (s_1 : (List Str)) =>
    ((((((idx numbers_here_0 45).bind fun (r_15 : Int) => .ok (r_15)).bind fun (r_16 : Int) => .ok ((r_16 % 6))).bind fun (r_17 : Int) => .ok ((decide (r_17 = 1)))).bind fun (r_18 : Bool) => if r_18 = true then .ok (decide (1 < (s_1.length : Int))) else .ok false)).bind fun (r_23 : Bool) => ((if r_23 = true then
      (catL (cutL s_1 none (some place_0)) (cutL s_1 (some (place_0 + 1)) none)).bind fun (line_2 : (List Str)) =>
      .ok line_2
    else
      .ok s_1) : M (List Str)).bind fun (s_2 : (List Str)) =>
    ((((idx numbers_here_0 45).bind fun (r_19 : Int) => .ok (r_19)).bind fun (r_20 : Int) => .ok ((r_20 % 6))).bind fun (r_21 : Int) => .ok ((decide (r_21 = 2)))).bind fun (r_22 : Bool) => ((if r_22 = true then
      (idx words_0 0).bind fun (y_1 : Str) =>
      need (decide (s_2.length < sizeLine)) <|
      .ok (s_2 ++ [y_1])
    else
      .ok s_2) : M (List Str)).bind fun (s_3 : (List Str)) =>
    let words_1 : (List Str) := s_3
    .ok words_1
  else
    .ok words_0) : M (List Str)).bind fun (s_0 : (List Str)) =>
  ((((idx numbers_here_0 46).bind fun (r_25 : Int) => .ok (r_25)).bind fun (r_26 : Int) => .ok ((r_26 % 3))).bind fun (r_27 : Int) => mulS (" " : Str) r_27).bind fun (text_0 : Str) =>
  (need (inR 0 (s_0.length : Int)) (.ok (rangeL 0 (s_0.length : Int)))).bind fun (r_58 : (List Int)) => (foldM (m_law_b1 numbers_here_0 s_0) text_0 r_58).bind fun (s_4 : Str) =>
  (((((idx numbers_here_0 49).bind fun (r_37 : Int) => .ok (r_37)).bind fun (r_38 : Int) => .ok ((r_38 % 3))).bind fun (r_39 : Int) => mulS (" " : Str) r_39).bind fun (r_40 : Str) => catS s_4 r_40).bind fun (text_3 : Str) =>
  (m_split_words text_3).bind fun (told_0 : (List Str)) =>
  ((if (!true) = true then .ok true else (if (!eqB told_0 s_0) = true then .ok true else (((((idx numbers_here_0 50).bind fun (r_41 : Int) => .ok (r_41)).bind fun (r_42 : Int) => .ok ((r_42 % 4))).bind fun (r_43 : Int) => mulS (" " : Str) r_43).bind fun (r_44 : Str) => m_split_words r_44).bind fun (r_45 : (List Str)) => .ok ((!eqB r_45 ([] : (List Str))))))).bind fun (r_57 : Bool) => if r_57 = true then
    .ok false
  else
  ((m_split_words ("a\tb \t" : Str)).bind fun (r_46 : (List Str)) => .ok ((!eqB r_46 [("a\tb" : Str), ("\t" : Str)]))).bind fun (r_56 : Bool) => if r_56 = true then
    .ok false
  else
  let passed_0 : (List Str) := s_0
  (need (inR 0 ((s_0.length : Int) + 1)) (.ok (rangeL 0 ((s_0.length : Int) + 1)))).bind fun (r_55 : (List Int)) => (loopM (m_law_b2 passed_0 s_0) () r_55).bind fun j => j.then fun (s_5 : Unit) =>
  (m_is_command passed_0).bind fun (actual_0 : Bool) =>
  ((if true = true then (((m_q_command s_0).bind fun (r_52 : Bool) => .ok ((decide (actual_0 = r_52)))).bind fun (r_53 : Bool) => if r_53 = true then .ok (eqB passed_0 s_0) else .ok false) else .ok false)).bind fun (r_54 : Bool) => .ok (r_54)
abbrev sis_name : Stmt := topS 3
abbrev nis_name : List Str := ["text", "char"]
theorem scis_name : FnScope ["text", "char"] ["text"] (defScope sis_name) := ⟨rfl, rfl, rfl, by decide +kernel, rfl, by decide +kernel, by decide +kernel⟩
abbrev ssplit_words : Stmt := topS 7
abbrev nsplit_words : List Str := ["line", "word"]
theorem scsplit_words : FnScope ["line", "word"] ["line"] (defScope ssplit_words) := ⟨rfl, rfl, rfl, by decide +kernel, rfl, by decide +kernel, by decide +kernel⟩
abbrev srow_of : Stmt := topS 8
abbrev nrow_of : List Str := ["words", "found", "word", "parts", "part"]
theorem scrow_of : FnScope ["words", "found", "word", "parts", "part"] ["words"] (defScope srow_of) := ⟨rfl, rfl, rfl, by decide +kernel, rfl, by decide +kernel, by decide +kernel⟩
abbrev sis_command : Stmt := topS 9
abbrev nis_command : List Str := ["words", "first", "rest", "word"]
theorem scis_command : FnScope ["words", "first", "rest", "word"] ["words"] (defScope sis_command) := ⟨rfl, rfl, rfl, by decide +kernel, rfl, by decide +kernel, by decide +kernel⟩
abbrev sq_row : Stmt := topS 11
abbrev nq_row : List Str := ["_law_cell", "_law_many", "_law_row_here", "_law_rest", "_law_mixed", "_law_k"]
theorem scq_row : FnScope ["_law_cell", "_law_many", "_law_row_here", "_law_rest", "_law_mixed", "_law_k"] ["_law_cell", "_law_many"] (defScope sq_row) := ⟨rfl, rfl, rfl, by decide +kernel, rfl, by decide +kernel, by decide +kernel⟩
abbrev sq_numbers : Stmt := topS 12
abbrev nq_numbers : List Str := ["_law_script", "_law_many", "_law_cells", "_law_each", "_law_numbers_here", "_law_cell", "_law_number"]
theorem scq_numbers : FnScope ["_law_script", "_law_many", "_law_cells", "_law_each", "_law_numbers_here", "_law_cell", "_law_number"] ["_law_script", "_law_many"] (defScope sq_numbers) := ⟨rfl, rfl, rfl, by decide +kernel, rfl, by decide +kernel, by decide +kernel⟩
abbrev sq_word : Stmt := topS 13
abbrev nq_word : List Str := ["_law_number", "_law_more", "_law_words", "_law_letters", "_law_size", "_law_k", "_law_word_here"]
theorem scq_word : FnScope ["_law_number", "_law_more", "_law_words", "_law_letters", "_law_size", "_law_k", "_law_word_here"] ["_law_number", "_law_more"] (defScope sq_word) := ⟨rfl, rfl, rfl, by decide +kernel, rfl, by decide +kernel, by decide +kernel⟩
abbrev sq_is_name : Stmt := topS 14
abbrev nq_is_name : List Str := ["_law_word_here", "_law_char"]
theorem scq_is_name : FnScope ["_law_word_here", "_law_char"] ["_law_word_here"] (defScope sq_is_name) := ⟨rfl, rfl, rfl, by decide +kernel, rfl, by decide +kernel, by decide +kernel⟩
abbrev sq_all_names : Stmt := topS 15
abbrev nq_all_names : List Str := ["_law_words", "_law_word_here"]
theorem scq_all_names : FnScope ["_law_words", "_law_word_here"] ["_law_words"] (defScope sq_all_names) := ⟨rfl, rfl, rfl, by decide +kernel, rfl, by decide +kernel, by decide +kernel⟩
abbrev sq_row_due : Stmt := topS 16
abbrev nq_row_due : List Str := ["_law_words", "_law_row_here", "_law_word_here", "_law_spot"]
theorem scq_row_due : FnScope ["_law_words", "_law_row_here", "_law_word_here", "_law_spot"] ["_law_words"] (defScope sq_row_due) := ⟨rfl, rfl, rfl, by decide +kernel, rfl, by decide +kernel, by decide +kernel⟩
abbrev sq_command : Stmt := topS 17
abbrev nq_command : List Str := ["_law_words", "_law_first", "_law_rest"]
theorem scq_command : FnScope ["_law_words", "_law_first", "_law_rest"] ["_law_words"] (defScope sq_command) := ⟨rfl, rfl, rfl, by decide +kernel, rfl, by decide +kernel, by decide +kernel⟩
abbrev sq_formed : Stmt := topS 18
abbrev nq_formed : List Str := ["_law_numbers_here", "_law_words", "_law_word_here", "_law_names", "_law_kind", "_law_k"]
theorem scq_formed : FnScope ["_law_numbers_here", "_law_words", "_law_word_here", "_law_names", "_law_kind", "_law_k"] ["_law_numbers_here", "_law_words"] (defScope sq_formed) := ⟨rfl, rfl, rfl, by decide +kernel, rfl, by decide +kernel, by decide +kernel⟩
abbrev slaw : Stmt := topS 19
abbrev nlaw : List Str := ["_law_script", "_law_numbers_here", "_law_k", "_law_words", "_law_line", "_law_place", "_law_text", "_law_told", "_law_passed", "_law_start", "_law_actual"]
theorem sclaw : FnScope ["_law_script", "_law_numbers_here", "_law_k", "_law_words", "_law_line", "_law_place", "_law_text", "_law_told", "_law_passed", "_law_start", "_law_actual"] ["_law_script"] (defScope slaw) := ⟨rfl, rfl, rfl, by decide +kernel, rfl, by decide +kernel, by decide +kernel⟩
structure Facts (w : World) (K : PySem.W.Frag) (mg : Str → Option Value) : Prop where
  b_abs : mg "abs" = none
  b_all : mg "all" = none
  b_bool : mg "bool" = none
  b_int : mg "int" = none
  b_isinstance : mg "isinstance" = none
  b_len : mg "len" = none
  b_list : mg "list" = none
  b_max : mg "max" = none
  b_range : mg "range" = none
  b_repr : mg "repr" = none
  c_NAME_CHARS : ∃ t, mg "NAME_CHARS" = some (.str "abcdefghijklmnopqrstuvwxyz0123456789" t)
  c_MOST_NAME_CHARS : ∃ t, mg "MOST_NAME_CHARS" = some (.int 12 t)
  t_FORMS : TabI w K mg "FORMS" t_FORMS
  t_ASKED : TabI w K mg "ASKED" t_ASKED
  d_is_name : ∃ fd, FnP K "is_name" "is_name" sis_name (He.ga K "is_name") fd
  g_is_name : mg "is_name" = some (.ref (He.ga K "is_name"))
  d_split_words : ∃ fd, FnP K "split_words" "split_words" ssplit_words (He.ga K "split_words") fd
  g_split_words : mg "split_words" = some (.ref (He.ga K "split_words"))
  d_row_of : ∃ fd, FnP K "row_of" "row_of" srow_of (He.ga K "row_of") fd
  g_row_of : mg "row_of" = some (.ref (He.ga K "row_of"))
  d_is_command : ∃ fd, FnP K "is_command" "is_command" sis_command (He.ga K "is_command") fd
  g_is_command : mg "is_command" = some (.ref (He.ga K "is_command"))
  d_q_row : ∃ fd, FnP K "_law_row" "_law_row" sq_row (He.ga K "_law_row") fd
  g_q_row : mg "_law_row" = some (.ref (He.ga K "_law_row"))
  d_q_numbers : ∃ fd, FnP K "_law_numbers" "_law_numbers" sq_numbers (He.ga K "_law_numbers") fd
  g_q_numbers : mg "_law_numbers" = some (.ref (He.ga K "_law_numbers"))
  d_q_word : ∃ fd, FnP K "_law_word" "_law_word" sq_word (He.ga K "_law_word") fd
  g_q_word : mg "_law_word" = some (.ref (He.ga K "_law_word"))
  d_q_is_name : ∃ fd, FnP K "_law_is_name" "_law_is_name" sq_is_name (He.ga K "_law_is_name") fd
  g_q_is_name : mg "_law_is_name" = some (.ref (He.ga K "_law_is_name"))
  d_q_all_names : ∃ fd, FnP K "_law_all_names" "_law_all_names" sq_all_names (He.ga K "_law_all_names") fd
  g_q_all_names : mg "_law_all_names" = some (.ref (He.ga K "_law_all_names"))
  d_q_row_due : ∃ fd, FnP K "_law_row_due" "_law_row_due" sq_row_due (He.ga K "_law_row_due") fd
  g_q_row_due : mg "_law_row_due" = some (.ref (He.ga K "_law_row_due"))
  d_q_command : ∃ fd, FnP K "_law_command" "_law_command" sq_command (He.ga K "_law_command") fd
  g_q_command : mg "_law_command" = some (.ref (He.ga K "_law_command"))
  d_q_formed : ∃ fd, FnP K "_law_formed" "_law_formed" sq_formed (He.ga K "_law_formed") fd
  g_q_formed : mg "_law_formed" = some (.ref (He.ga K "_law_formed"))
  d_law : ∃ fd, FnP K "law" "law" slaw (He.ga K "law") fd
  g_law : mg "law" = some (.ref (He.ga K "law"))
section
variable {P : Program} {w : World} {K : PySem.W.Frag} {mg : Str → Option Value} {base : Heap} {cA : Str → Addr}
theorem ok_is_name (Z : Facts w K mg) : FnOk P w K mg base (L2.CX P w) 1 (He.ga K "is_name") (Z.d_is_name.choose) ["text"] (SpF K cA (Fv1 m_is_name)) := by
  refine fn_ok1 Z.d_is_name.choose_spec scis_name rfl fun cdv A outer s H E hr text_0 => ?_
  conv => arg 4; whnf
  exact cs_is (m := _) (cs_ifX (CW.ct (cw_or (ct_not (ct_chain (fun _ _ => bop_le) (fun _ _ => bop_le) ce_int (ce_blt1 (fun _ => bc_lenS) (ce_var (i := 0) (y := text_0) rfl) rfl Z.b_len (by decide +kernel)) (ce_globI Z.c_MOST_NAME_CHARS))) (cw_or1 (ct_cmp (fun _ _ => bop_inC) (ce_sub (fun _ _ => xop_str) (ce_var (i := 0) (y := text_0) rfl) ce_int) ce_str rfl)))) (cs_ret (f := fun (z_0 : Bool) => z_0) ce_bl (fun _ => .inl rfl) (List.nil_sublist _)) (cs_ret (f := fun (z_1 : Bool) => z_1) (ce_blt1 (fun _ => bc_all) (ce_of_cn (cn_lcP (p := fun (e_0 : Ch) => (decide (e_0.code ∈ ("abcdefghijklmnopqrstuvwxyz0123456789" : Str).cps.toList))) rfl scis_name.nd (blkOk_by (own := [("char", 1)]) (N := nis_name) (sc := defScope sis_name) (by decide +kernel)) (ci_str (ce_var (i := 0) (y := text_0) rfl)) (fun _ _ _ _ _ => (cg_name (α := Ch) (i := 1) scis_name.nd)) (fun (e_0 : Ch) _ _ _ _ _ => (ce_cmp (fun _ _ => bop_inC) (ce_var (i := 1) (y := e_0) rfl) (ce_globS Z.c_NAME_CHARS) rfl)))) rfl Z.b_all (by decide +kernel)) (fun _ => .inr rfl) (List.nil_sublist _)) rfl) (by unfold m_is_name; simp only [M.bindK, M.bind_assoc, M.bindP, eqB, memB, absI, maxI, minI]; try rfl)
theorem c_is_name (Z : Facts w K mg) : Callable P w K mg base cA 1 "is_name" (He.ga K "is_name") ["text"] (Fv1 m_is_name) :=
  ⟨Z.g_is_name, Z.d_is_name.choose_spec.kp, _, ok_is_name Z, FunD.bindsN Z.d_is_name.choose_spec (fun _ _ _ _ _ _ us hl => match us, hl with | [_], _ => rfl)⟩
theorem ok_split_words (Z : Facts w K mg) : FnOk P w K mg base (L2.CX P w) 1 (He.ga K "split_words") (Z.d_split_words.choose) ["line"] (SpF K cA (Fv1 m_split_words)) := by
  refine fn_ok1 Z.d_split_words.choose_spec scsplit_words rfl fun cdv A outer s H E hr line_0 => ?_
  conv => arg 4; whnf
  exact cs_is (m := _) (cs_ret (f := fun (z_0 : (List Str)) => z_0) (ce_of_cn (cn_lcFP (p := fun (e_0 : Str) => e_0) (q := fun (e_0 : Str) => (!decide (e_0 = ("" : Str)))) rfl scsplit_words.nd (blkOk_by (own := [("word", 1)]) (N := nsplit_words) (sc := defScope ssplit_words) (by decide +kernel)) (ci_list (ce_of_cn (cn_ms1 PySem.F.slot_str_split PySem.F.type_str_split (fun _ _ => ms_split) (ce_var (i := 0) (y := line_0) rfl) ce_str))) (fun _ _ _ _ _ => (cg_name (α := Str) (i := 1) scsplit_words.nd)) (fun (e_0 : Str) _ _ _ _ _ => (ct_cmp (fun _ _ => bop_ne hr.units) (ce_var (i := 1) (y := e_0) rfl) ce_str rfl)) (fun (e_0 : Str) _ _ _ _ _ => (ce_var (i := 1) (y := e_0) rfl)))) (fun _ => .inr rfl) (List.nil_sublist _)) (by unfold m_split_words; simp only [M.bindK, M.bind_assoc, M.bindP, eqB, memB, absI, maxI, minI]; try rfl)
theorem c_split_words (Z : Facts w K mg) : Callable P w K mg base cA 1 "split_words" (He.ga K "split_words") ["line"] (Fv1 m_split_words) :=
  ⟨Z.g_split_words, Z.d_split_words.choose_spec.kp, _, ok_split_words Z, FunD.bindsN Z.d_split_words.choose_spec (fun _ _ _ _ _ _ us hl => match us, hl with | [_], _ => rfl)⟩
theorem ok_row_of (Z : Facts w K mg) : FnOk P w K mg base (L2.CX P w) 2 (He.ga K "row_of") (Z.d_row_of.choose) ["words"] (SpF K cA (Fv1 m_row_of)) := by
  refine fn_ok1 Z.d_row_of.choose_spec scrow_of rfl fun cdv A outer s H E hr words_0 => ?_
  conv => arg 4; whnf
  exact cs_is (m := _) (cs_setN (i := 1) (cn_nil (α := (Str × Str))) (nd := scrow_of.nd) fun (found_0 : (List (Str × Str))) a_0 => cs_for (S := (List (Str × Str))) (mb := m_row_of_b1) (s0 := found_0) (fun (s_0 : (List (Str × Str))) (as_0 : List Addr) => ([some (enc words_0), some (.own a_0), none, none, none] : Fm)) (fun (s_0 : (List (Str × Str))) (as_0 : List Addr) => ([(a_0, Cell.lst (encL s_0))] : Led)) (passes_of rfl) rfl (ci_list (ce_var (i := 0) (y := words_0) rfl)) (cg_name (α := Str) (i := 2) scrow_of.nd) (fun s_0 as_0 (e_0 : Str) => cs_is (m := _) (cs_set (i := 3) (ce_of_cn (cn_ms1 PySem.F.slot_str_split PySem.F.type_str_split (fun _ _ => ms_split) (ce_var (i := 2) (y := e_0) rfl) ce_str)) (nd := scrow_of.nd) fun (parts_0 : (List Str)) => cs_ifX (CW.ct (cw_or (ct_cmp (fun _ _ => bop_ne hr.units) (ce_blt1 (fun _ => bc_lenL) (ce_var (i := 3) (y := parts_0) rfl) rfl Z.b_len (by decide +kernel)) ce_int rfl) (cw_or1 (ct_not (ct_val (ce_blt1 (fun _ => bc_all) (ce_of_cn (cn_lc (me := fun (e_1 : Str) => m_is_name e_1) rfl scrow_of.nd (blkOk_by (own := [("part", 4)]) (N := nrow_of) (sc := defScope srow_of) (by decide +kernel)) (ci_list (ce_var (i := 3) (y := parts_0) rfl)) (fun _ _ _ _ _ => (cg_name (α := Str) (i := 4) scrow_of.nd)) (fun (e_1 : Str) _ _ _ _ _ => ce_is (ce_c1 (g := m_is_name) (c_is_name Z) (hr.mono (by decide)) rfl takes_no (ce_var (i := 4) (y := e_1) rfl)) (by rfl)))) rfl Z.b_all (by decide +kernel))))))) (cs_ret (f := fun (z_0 : (Option (List (Str × Str)))) => (Fl.out z_0)) (ce_nonO (α := (List (Str × Str)))) (fun _ => .inl rfl) (List.nil_sublist _)) (cs_append (i := 1) (j := 0) (a := a_0) (xs := s_0) rfl rfl (ce_tup2 (ce_sub (fun _ _ => xop_list) (ce_var (i := 3) (y := parts_0) rfl) ce_int) (ce_sub (fun _ _ => xop_list) (ce_var (i := 3) (y := parts_0) rfl) ce_int)) fun (y_0 : (Str × Str)) => cs_nil (o := (Fl.nx (s_0 ++ [y_0]))) [] rfl (wk_of (wkf_keep (wkf_keep (wkf_drop (wkf_drop (wkf_drop wkf_nil))))) (wkl_keep wkl_nil))) rfl) (by unfold m_row_of_b1; simp only [M.bindK, M.bind_assoc, M.bindP, eqB, memB, absI, maxI, minI]; try rfl)) (fun s_0 as_0 => cs_frz (i := 1) (j := 0) (a := a_0) (xs := s_0) rfl rfl <| cs_ret (f := fun (z_1 : (Option (List (Str × Str)))) => z_1) (ce_as (f := fun z => (some z : (Option (List (Str × Str))))) (ce_var (i := 1) (y := s_0) rfl) (fun _ => rfl)) (fun _ => .inr rfl) (List.nil_sublist _)) [] (wk_of (wkf_keep (wkf_keep (wkf_drop (wkf_drop (wkf_drop wkf_nil))))) (wkl_keep wkl_nil))) (by unfold m_row_of; simp only [M.bindK, M.bind_assoc, M.bindP, eqB, memB, absI, maxI, minI]; try rfl)
theorem c_row_of (Z : Facts w K mg) : Callable P w K mg base cA 2 "row_of" (He.ga K "row_of") ["words"] (Fv1 m_row_of) :=
  ⟨Z.g_row_of, Z.d_row_of.choose_spec.kp, _, ok_row_of Z, FunD.bindsN Z.d_row_of.choose_spec (fun _ _ _ _ _ _ us hl => match us, hl with | [_], _ => rfl)⟩
theorem ok_is_command (Z : Facts w K mg) : FnOk P w K mg base (L2.CX P w) 3 (He.ga K "is_command") (Z.d_is_command.choose) ["words"] (SpF K cA (Fv1 m_is_command)) := by
  refine fn_ok1 Z.d_is_command.choose_spec scis_command rfl fun cdv A outer s H E hr words_0 => ?_
  conv => arg 4; whnf
  exact cs_is (m := _) (cs_swap2 (i := 1) (j := 2) (ce_sub (fun _ _ => xop_list) (ce_var (i := 0) (y := words_0) rfl) ce_int) (ce_of_cn (cn_slice (ce_var (i := 0) (y := words_0) rfl) (co_some ce_int) co_none)) (fun (first_0 : Str) (rest_0 : (List Str)) => cs_ifX (ct_cmp (fun _ _ => bop_eq hr.units) (ce_var (i := 1) (y := first_0) rfl) ce_str rfl) (cs_ret (f := fun (z_0 : Bool) => z_0) (ce_and (ce_cmp (fun _ _ => bop_gt) (ce_blt1 (fun _ => bc_lenL) (ce_var (i := 2) (y := rest_0) rfl) rfl Z.b_len (by decide +kernel)) ce_int rfl) (ce_and (ce_c1 (g := m_is_name) (c_is_name Z) (hr.mono (by decide)) rfl (takes_of rfl rfl rfl rfl) (ce_sub (fun _ _ => xop_list) (ce_var (i := 2) (y := rest_0) rfl) ce_int)) (ce_one (ce_cmp (fun _ _ => bop_notN) (ce_c1 (g := m_row_of) (c_row_of Z) (hr.mono (by decide)) rfl (takes_of rfl rfl rfl rfl) (ce_of_cn (cn_slice (ce_var (i := 2) (y := rest_0) rfl) (co_some ce_int) co_none))) ce_non rfl)))) (fun _ => .inl rfl) (List.nil_sublist _)) (cs_ifX (ct_cmp (fun _ _ => bop_inTab) (ce_var (i := 1) (y := first_0) rfl) (ce_tab Z.t_FORMS) rfl) (cs_ret (f := fun (z_1 : Bool) => z_1) (ce_and (ce_cmp (fun _ _ => bop_eq hr.units) (ce_blt1 (fun _ => bc_lenL) (ce_var (i := 2) (y := rest_0) rfl) rfl Z.b_len (by decide +kernel)) (ce_sub (fun _ _ => xop_tab) (ce_tab Z.t_FORMS) (ce_var (i := 1) (y := first_0) rfl)) rfl) (ce_one (ce_blt1 (fun _ => bc_all) (ce_of_cn (cn_lc (me := fun (e_0 : Str) => m_is_name e_0) rfl scis_command.nd (blkOk_by (own := [("word", 3)]) (N := nis_command) (sc := defScope sis_command) (by decide +kernel)) (ci_list (ce_var (i := 2) (y := rest_0) rfl)) (fun _ _ _ _ _ => (cg_name (α := Str) (i := 3) scis_command.nd)) (fun (e_0 : Str) _ _ _ _ _ => ce_is (ce_c1 (g := m_is_name) (c_is_name Z) (hr.mono (by decide)) rfl takes_no (ce_var (i := 3) (y := e_0) rfl)) (by rfl)))) rfl Z.b_all (by decide +kernel)))) (fun _ => .inl rfl) (List.nil_sublist _)) (cs_ifX (ct_cmp (fun _ _ => bop_eq hr.units) (ce_var (i := 1) (y := first_0) rfl) ce_str rfl) (cs_ifX (CW.ct (cw_or (ct_cmp (fun _ _ => bop_lt) (ce_blt1 (fun _ => bc_lenL) (ce_var (i := 2) (y := rest_0) rfl) rfl Z.b_len (by decide +kernel)) ce_int rfl) (cw_or1 (ct_cmp (fun _ _ => bop_niTab) (ce_sub (fun _ _ => xop_list) (ce_var (i := 2) (y := rest_0) rfl) ce_int) (ce_tab Z.t_ASKED) rfl)))) (cs_ret (f := fun (z_2 : Bool) => z_2) ce_bl (fun _ => .inl rfl) (List.nil_sublist _)) (cs_ret (f := fun (z_3 : Bool) => z_3) (ce_and (ce_cmp (fun _ _ => bop_eq hr.units) (ce_blt1 (fun _ => bc_lenL) (ce_var (i := 2) (y := rest_0) rfl) rfl Z.b_len (by decide +kernel)) (ce_bin (fun _ _ => bop_add) ce_int (ce_sub (fun _ _ => xop_tab) (ce_tab Z.t_ASKED) (ce_sub (fun _ _ => xop_list) (ce_var (i := 2) (y := rest_0) rfl) ce_int))) rfl) (ce_one (ce_blt1 (fun _ => bc_all) (ce_of_cn (cn_lc (me := fun (e_1 : Str) => m_is_name e_1) rfl scis_command.nd (blkOk_by (own := [("word", 3)]) (N := nis_command) (sc := defScope sis_command) (by decide +kernel)) (ci_list (ce_var (i := 2) (y := rest_0) rfl)) (fun _ _ _ _ _ => (cg_name (α := Str) (i := 3) scis_command.nd)) (fun (e_1 : Str) _ _ _ _ _ => ce_is (ce_c1 (g := m_is_name) (c_is_name Z) (hr.mono (by decide)) rfl takes_no (ce_var (i := 3) (y := e_1) rfl)) (by rfl)))) rfl Z.b_all (by decide +kernel)))) (fun _ => .inl rfl) (List.nil_sublist _)) rfl) (cs_ifX (ct_cmp (fun _ _ => bop_eq hr.units) (ce_var (i := 1) (y := first_0) rfl) ce_str rfl) (cs_ret (f := fun (z_4 : Bool) => z_4) (ce_and (ce_cmp (fun _ _ => bop_eq hr.units) (ce_blt1 (fun _ => bc_lenL) (ce_var (i := 2) (y := rest_0) rfl) rfl Z.b_len (by decide +kernel)) ce_int rfl) (ce_and (ce_c1 (g := m_is_name) (c_is_name Z) (hr.mono (by decide)) rfl (takes_of rfl rfl rfl rfl) (ce_sub (fun _ _ => xop_list) (ce_var (i := 2) (y := rest_0) rfl) ce_int)) (ce_and (ce_c1 (g := m_is_name) (c_is_name Z) (hr.mono (by decide)) rfl (takes_of rfl rfl rfl rfl) (ce_sub (fun _ _ => xop_list) (ce_var (i := 2) (y := rest_0) rfl) ce_int)) (ce_one (ce_cmp (fun _ _ => bop_inT hr.units) (ce_sub (fun _ _ => xop_list) (ce_var (i := 2) (y := rest_0) rfl) ce_int) (ce_tupLP (xs := [("yes" : Str), ("no" : Str)]) (calp_str (calp_str (calp_nil (α := Str))))) rfl))))) (fun _ => .inl rfl) (List.nil_sublist _)) (cs_ret (f := fun (z_5 : Bool) => z_5) (ce_and (ce_cmp (fun _ _ => bop_eq hr.units) (ce_var (i := 1) (y := first_0) rfl) ce_str rfl) (ce_and (ce_cmp (fun _ _ => bop_eq hr.units) (ce_blt1 (fun _ => bc_lenL) (ce_var (i := 2) (y := rest_0) rfl) rfl Z.b_len (by decide +kernel)) ce_int rfl) (ce_one (ce_c1 (g := m_is_name) (c_is_name Z) (hr.mono (by decide)) rfl (takes_of rfl rfl rfl rfl) (ce_sub (fun _ _ => xop_list) (ce_var (i := 2) (y := rest_0) rfl) ce_int))))) (fun _ => .inr rfl) (List.nil_sublist _)) rfl) rfl) rfl) rfl) scis_command.nd (by decide) (by rfl)) (by unfold m_is_command; simp only [M.bindK, M.bind_assoc, M.bindP, eqB, memB, absI, maxI, minI]; try rfl)
theorem c_is_command (Z : Facts w K mg) : Callable P w K mg base cA 3 "is_command" (He.ga K "is_command") ["words"] (Fv1 m_is_command) :=
  ⟨Z.g_is_command, Z.d_is_command.choose_spec.kp, _, ok_is_command Z, FunD.bindsN Z.d_is_command.choose_spec (fun _ _ _ _ _ _ us hl => match us, hl with | [_], _ => rfl)⟩
theorem ok_q_row (Z : Facts w K mg) : FnOk P w K mg base (L2.CX P w) 1 (He.ga K "_law_row") (Z.d_q_row.choose) ["_law_cell", "_law_many"] (SpF K cA (Fv2 m_q_row)) := by
  refine fn_ok2 Z.d_q_row.choose_spec scq_row rfl fun cdv A outer s H E hr cell_0 many_0 => ?_
  conv => arg 4; whnf
  exact cs_is (m := _) (cs_setN (i := 2) (cn_nil (α := Int)) (nd := scq_row.nd) fun (row_here_0 : (List Int)) a_0 => cs_set (i := 3) (ce_blt1 (fun _ => bc_abs) (ce_var (i := 0) (y := cell_0) rfl) rfl Z.b_abs (by decide +kernel)) (nd := scq_row.nd) fun (rest_0 : Int) => cs_set (i := 4) (ce_modC (ce_ty1 (fun _ => bc_int) (ce_bin (fun _ _ => bop_add) (ce_mulC (ce_var (i := 3) (y := rest_0) rfl)) ce_int) rfl Z.b_int (by decide +kernel))) (nd := scq_row.nd) fun (mixed_0 : Int) => cs_for1 (S := ((List Int) × Int × Int)) (mb := (m_q_row_b1 cell_0)) (s0 := (row_here_0, rest_0, mixed_0)) (fun (s_0 : ((List Int) × Int × Int)) (as_0 : List Addr) => ([some (enc cell_0), some (enc many_0), some (.own a_0), some (enc s_0.2.1), some (enc s_0.2.2), none] : Fm)) (fun (s_0 : ((List Int) × Int × Int)) (as_0 : List Addr) => ([(a_0, Cell.lst (encL s_0.1))] : Led)) (passes_of rfl) rfl (ci_range1 (ce_var (i := 1) (y := many_0) rfl) rfl Z.b_range) (cg_name (α := Int) (i := 5) scq_row.nd) (fun s_0 as_0 (e_0 : Int) => cs_is (m := _) (cs_set (i := 4) (ce_modC (ce_ty1 (fun _ => bc_int) (ce_bin (fun _ _ => bop_add) (ce_mulC (ce_var (i := 4) (y := s_0.2.2) rfl)) (ce_Cmul (ce_bin (fun _ _ => bop_add) (ce_var (i := 5) (y := e_0) rfl) ce_int))) rfl Z.b_int (by decide +kernel))) (nd := scq_row.nd) fun (mixed_1 : Int) => cs_ifT (ct_cmp (fun _ _ => bop_ge) (ce_blt1 (fun _ => bc_abs) (ce_var (i := 0) (y := cell_0) rfl) rfl Z.b_abs (by decide +kernel)) (ce_powC (z := 1000000000000000000)) rfl) (cs_append (i := 2) (j := 0) (a := a_0) (xs := s_0.1) rfl rfl (ce_modC (ce_ty1 (fun _ => bc_int) (ce_var (i := 3) (y := s_0.2.1) rfl) rfl Z.b_int (by decide +kernel))) fun (y_0 : Int) => cs_set (i := 3) (ce_divC (ce_var (i := 3) (y := s_0.2.1) rfl)) (nd := scq_row.nd) fun (rest_1 : Int) => cs_nil (o := ((s_0.1 ++ [y_0]), rest_1, mixed_1)) [] rfl (wk_of (wkf_keep (wkf_keep (wkf_keep (wkf_keep (wkf_keep (wkf_drop wkf_nil)))))) (wkl_keep wkl_nil))) (cs_append (i := 2) (j := 0) (a := a_0) (xs := s_0.1) rfl rfl (ce_modC (ce_ty1 (fun _ => bc_int) (ce_divC (ce_var (i := 4) (y := mixed_1) rfl)) rfl Z.b_int (by decide +kernel))) fun (y_1 : Int) => cs_nil (o := ((s_0.1 ++ [y_1]), s_0.2.1, mixed_1)) [] rfl (wk_of (wkf_keep (wkf_keep (wkf_keep (wkf_keep (wkf_keep (wkf_drop wkf_nil)))))) (wkl_keep wkl_nil)))) (by unfold m_q_row_b1; simp only [M.bindK, M.bind_assoc, M.bindP, eqB, memB, absI, maxI, minI]; try rfl)) (fun s_0 as_0 => cs_frz (i := 2) (j := 0) (a := a_0) (xs := s_0.1) rfl rfl <| cs_ret (f := fun (z_0 : (List Int)) => z_0) (ce_var (i := 2) (y := s_0.1) rfl) (fun _ => .inr rfl) (List.nil_sublist _)) [] (wk_of (wkf_keep (wkf_keep (wkf_keep (wkf_keep (wkf_keep (wkf_drop wkf_nil)))))) (wkl_keep wkl_nil))) (by unfold m_q_row; simp only [M.bindK, M.bind_assoc, M.bindP, eqB, memB, absI, maxI, minI]; try rfl)
theorem c_q_row (Z : Facts w K mg) : Callable P w K mg base cA 1 "_law_row" (He.ga K "_law_row") ["_law_cell", "_law_many"] (Fv2 m_q_row) :=
  ⟨Z.g_q_row, Z.d_q_row.choose_spec.kp, _, ok_q_row Z, FunD.bindsN Z.d_q_row.choose_spec (fun _ _ _ _ _ _ us hl => match us, hl with | [_, _], _ => rfl)⟩
theorem ok_q_numbers (Z : Facts w K mg) : FnOk P w K mg base (L2.CX P w) 2 (He.ga K "_law_numbers") (Z.d_q_numbers.choose) ["_law_script", "_law_many"] (SpF K cA (Fv2 m_q_numbers)) := by
  refine fn_ok2 Z.d_q_numbers.choose_spec scq_numbers rfl fun cdv A outer s H E hr script_0 many_0 => ?_
  conv => arg 4; whnf
  exact cs_is (m := _) (cs_set (i := 2) (ce_of_cn (cn_slice (ce_var (i := 0) (y := script_0) rfl) co_none (co_some ce_int))) (nd := scq_numbers.nd) fun (cells_0 : (List Int)) => cs_set (i := 3) (ce_bin (fun _ _ => bop_add) ce_int (ce_bin (fun _ _ => bop_div) (ce_var (i := 1) (y := many_0) rfl) (ce_blt2 (fun _ _ => bc_max2) ce_int (ce_blt1 (fun _ => bc_lenL) (ce_var (i := 2) (y := cells_0) rfl) rfl Z.b_len (by decide +kernel)) rfl Z.b_max (by decide +kernel)))) (nd := scq_numbers.nd) fun (each_0 : Int) => cs_setN (i := 4) (cn_nil (α := Int)) (nd := scq_numbers.nd) fun (numbers_here_0 : (List Int)) a_0 => cs_for1 (S := (List Int)) (mb := (m_q_numbers_b2 each_0)) (s0 := numbers_here_0) (fun (s_0 : (List Int)) (as_0 : List Addr) => ([some (enc script_0), some (enc many_0), some (enc cells_0), some (enc each_0), some (.own a_0), none, none] : Fm)) (fun (s_0 : (List Int)) (as_0 : List Addr) => ([(a_0, Cell.lst (encL s_0))] : Led)) (passes_of rfl) rfl (ci_list (ce_var (i := 2) (y := cells_0) rfl)) (cg_name (α := Int) (i := 5) scq_numbers.nd) (fun s_0 as_0 (e_0 : Int) => cs_is (m := _) (cs_for1 (S := (List Int)) (mb := m_q_numbers_b1) (s0 := s_0) (fun (s_1 : (List Int)) (as_1 : List Addr) => ([some (enc script_0), some (enc many_0), some (enc cells_0), some (enc each_0), some (.own a_0), some (enc e_0), none] : Fm)) (fun (s_1 : (List Int)) (as_1 : List Addr) => ([(a_0, Cell.lst (encL s_1))] : Led)) (passes_of rfl) rfl (ci_list (ce_c2 (g := m_q_row) (c_q_row Z) (hr.mono (by decide)) rfl (takes_of rfl rfl rfl rfl) (ce_var (i := 5) (y := e_0) rfl) (ce_var (i := 3) (y := each_0) rfl))) (cg_name (α := Int) (i := 6) scq_numbers.nd) (fun s_1 as_1 (e_1 : Int) => cs_is (m := _) (cs_append (i := 4) (j := 0) (a := a_0) (xs := s_1) rfl rfl (ce_var (i := 6) (y := e_1) rfl) fun (y_0 : Int) => cs_nil (o := (s_1 ++ [y_0])) [] rfl (wk_of (wkf_keep (wkf_keep (wkf_keep (wkf_keep (wkf_keep (wkf_keep (wkf_drop wkf_nil))))))) (wkl_keep wkl_nil))) (by unfold m_q_numbers_b1; simp only [M.bindK, M.bind_assoc, M.bindP, eqB, memB, absI, maxI, minI]; try rfl)) (fun s_1 as_1 => cs_nil (o := s_1) [] rfl (wk_of (wkf_keep (wkf_keep (wkf_keep (wkf_keep (wkf_keep (wkf_drop (wkf_drop wkf_nil))))))) (wkl_keep wkl_nil))) [] (wk_of (wkf_keep (wkf_keep (wkf_keep (wkf_keep (wkf_keep (wkf_keep (wkf_drop wkf_nil))))))) (wkl_keep wkl_nil))) (by unfold m_q_numbers_b2; simp only [M.bindK, M.bind_assoc, M.bindP, eqB, memB, absI, maxI, minI]; try rfl)) (fun s_0 as_0 => cs_while1 (S := (List Int)) (mc := (fun (s_2 : (List Int)) => .ok (decide ((s_2.length : Int) < many_0)))) (mb := m_q_numbers_b3) (s0 := s_0) FUEL (fun (s_2 : (List Int)) (as_2 : List Addr) => ([some (enc script_0), some (enc many_0), some (enc cells_0), some (enc each_0), some (.own a_0), none, none] : Fm)) (fun (s_2 : (List Int)) (as_2 : List Addr) => ([(a_0, Cell.lst (encL s_2))] : Led)) (passes_of rfl) (fun s_2 as_2 => ct_is (ct_cmp (fun _ _ => bop_lt) (ce_lenO (i := 4) (j := 0) (xs := s_2) rfl rfl rfl Z.b_len) (ce_var (i := 1) (y := many_0) rfl) rfl) (by rfl)) (fun s_2 as_2 => cs_is (m := _) (cs_append (i := 4) (j := 0) (a := a_0) (xs := s_2) rfl rfl ce_int fun (y_1 : Int) => cs_nil (o := (s_2 ++ [y_1])) [] rfl (wk_of (wkf_keep (wkf_keep (wkf_keep (wkf_keep (wkf_keep (wkf_drop (wkf_drop wkf_nil))))))) (wkl_keep wkl_nil))) (by unfold m_q_numbers_b3; simp only [M.bindK, M.bind_assoc, M.bindP, eqB, memB, absI, maxI, minI]; try rfl)) (fun s_2 as_2 => cs_frz (i := 4) (j := 0) (a := a_0) (xs := s_2) rfl rfl <| cs_ret (f := fun (z_0 : (List Int)) => z_0) (ce_of_cn (cn_slice (ce_var (i := 4) (y := s_2) rfl) co_none (co_some (ce_var (i := 1) (y := many_0) rfl)))) (fun _ => .inr rfl) (List.nil_sublist _)) [] (wk_of (wkf_keep (wkf_keep (wkf_keep (wkf_keep (wkf_keep (wkf_drop (wkf_drop wkf_nil))))))) (wkl_keep wkl_nil))) [] (wk_of (wkf_keep (wkf_keep (wkf_keep (wkf_keep (wkf_keep (wkf_drop (wkf_drop wkf_nil))))))) (wkl_keep wkl_nil))) (by unfold m_q_numbers; simp only [M.bindK, M.bind_assoc, M.bindP, eqB, memB, absI, maxI, minI]; try rfl)
theorem c_q_numbers (Z : Facts w K mg) : Callable P w K mg base cA 2 "_law_numbers" (He.ga K "_law_numbers") ["_law_script", "_law_many"] (Fv2 m_q_numbers) :=
  ⟨Z.g_q_numbers, Z.d_q_numbers.choose_spec.kp, _, ok_q_numbers Z, FunD.bindsN Z.d_q_numbers.choose_spec (fun _ _ _ _ _ _ us hl => match us, hl with | [_, _], _ => rfl)⟩
theorem ok_q_word (Z : Facts w K mg) : FnOk P w K mg base (L2.CX P w) 1 (He.ga K "_law_word") (Z.d_q_word.choose) ["_law_number", "_law_more"] (SpF K cA (Fv2 m_q_word)) := by
  refine fn_ok2 Z.d_q_word.choose_spec scq_word rfl fun cdv A outer s H E hr number_0 more_0 => ?_
  conv => arg 4; whnf
  exact cs_is (m := _) (cs_set (i := 2) (ce_tupLP (xs := [("book" : Str), ("undo" : Str), ("redo" : Str), ("drop" : Str), ("answer" : Str), ("answers" : Str), ("print" : Str), ("read" : Str), ("books" : Str), ("questions" : Str), ("ask" : Str), ("set" : Str), ("remove" : Str)]) (calp_str (calp_str (calp_str (calp_str (calp_str (calp_str (calp_str (calp_str (calp_str (calp_str (calp_str (calp_str (calp_str (calp_nil (α := Str)))))))))))))))) (nd := scq_word.nd) fun (words_0 : (Tup Str)) => cs_set (i := 2) (ce_bin (fun _ _ => bop_catT) (ce_var (i := 2) (y := words_0) rfl) (ce_tupLP (xs := [("alike" : Str), ("ever" : Str), ("places" : Str), ("yes" : Str), ("no" : Str), ("end" : Str), ("7" : Str)]) (calp_str (calp_str (calp_str (calp_str (calp_str (calp_str (calp_str (calp_nil (α := Str))))))))))) (nd := scq_word.nd) fun (words_1 : (Tup Str)) => cs_set (i := 3) ce_str (nd := scq_word.nd) fun (letters_0 : Str) => cs_ifX (ct_cmp (fun _ _ => bop_eq hr.units) (ce_modC (ce_ty1 (fun _ => bc_int) (ce_var (i := 0) (y := number_0) rfl) rfl Z.b_int (by decide +kernel))) ce_int rfl) (cs_ret (f := fun (z_0 : Str) => z_0) (ce_sub (fun _ _ => xop_tup) (ce_var (i := 2) (y := words_1) rfl) (ce_modC (ce_ty1 (fun _ => bc_int) (ce_divC (ce_var (i := 0) (y := number_0) rfl)) rfl Z.b_int (by decide +kernel)))) (fun _ => .inl rfl) (List.nil_sublist _)) (cs_set (i := 4) (ce_modC (ce_ty1 (fun _ => bc_int) (ce_divC (ce_var (i := 0) (y := number_0) rfl)) rfl Z.b_int (by decide +kernel))) (nd := scq_word.nd) fun (size_0 : Int) => cs_set (i := 6) (ce_bin (fun _ _ => bop_cat) (ce_chS (ce_sub (fun _ _ => xop_str) (ce_var (i := 3) (y := letters_0) rfl) (ce_modC (ce_ty1 (fun _ => bc_int) (ce_var (i := 1) (y := more_0) rfl) rfl Z.b_int (by decide +kernel))))) (ce_ms1 PySem.F.slot_str_join PySem.F.type_str_join (fun _ _ => ms_join) ce_str (ce_of_cn (cn_lc (me := fun (e_0 : Int) => ((((((mulI (11 * e_0) number_0).bind fun (r_2 : Int) => .ok ((more_0 + r_2))).bind fun (r_3 : Int) => .ok ((r_3 + e_0))).bind fun (r_4 : Int) => .ok (r_4)).bind fun (r_5 : Int) => .ok ((r_5 % 36))).bind fun (r_6 : Int) => need (decide (letters_0.length ≤ sizeLine)) (idxS letters_0 r_6)).bind fun (r_7 : Ch) => .ok (r_7.str)) rfl scq_word.nd (blkOk_by (own := [("_law_k", 5)]) (N := nq_word) (sc := defScope sq_word) (by decide +kernel)) (ci_range1 (ce_mulC (ce_var (i := 4) (y := size_0) rfl)) rfl Z.b_range) (fun _ _ _ _ _ => (cg_name (α := Int) (i := 5) scq_word.nd)) (fun (e_0 : Int) _ _ _ _ _ => ce_is (ce_chS (ce_sub (fun _ _ => xop_str) (ce_var (i := 3) (y := letters_0) rfl) (ce_modC (ce_ty1 (fun _ => bc_int) (ce_bin (fun _ _ => bop_add) (ce_bin (fun _ _ => bop_add) (ce_var (i := 1) (y := more_0) rfl) (ce_bin (fun _ _ => bop_mul) (ce_Cmul (ce_var (i := 5) (y := e_0) rfl)) (ce_var (i := 0) (y := number_0) rfl))) (ce_var (i := 5) (y := e_0) rfl)) rfl Z.b_int (by decide +kernel))))) (by rfl)))))) (nd := scq_word.nd) fun (word_here_0 : Str) => cs_ifX (ct_cmp (fun _ _ => bop_eq hr.units) (ce_modC (ce_ty1 (fun _ => bc_int) (ce_var (i := 0) (y := number_0) rfl) rfl Z.b_int (by decide +kernel))) ce_int rfl) (cs_ret (f := fun (z_1 : Str) => z_1) (ce_bin (fun _ _ => bop_cat) (ce_bin (fun _ _ => bop_cat) (ce_sliceS (ce_var (i := 6) (y := word_here_0) rfl) co_none (co_some ce_int)) (ce_sub (fun _ _ => xop_tup) (ce_tupLP (xs := [(":" : Str), (":a" : Str), ("::b" : Str), (":1" : Str), (":a:b" : Str)]) (calp_str (calp_str (calp_str (calp_str (calp_str (calp_nil (α := Str)))))))) (ce_modC (ce_ty1 (fun _ => bc_int) (ce_var (i := 1) (y := more_0) rfl) rfl Z.b_int (by decide +kernel))))) (ce_sliceS (ce_var (i := 6) (y := word_here_0) rfl) co_none (co_some ce_int))) (fun _ => .inl rfl) (List.nil_sublist _)) (cs_ifX (ct_cmp (fun _ _ => bop_eq hr.units) (ce_modC (ce_ty1 (fun _ => bc_int) (ce_var (i := 1) (y := more_0) rfl) rfl Z.b_int (by decide +kernel))) ce_int rfl) (cs_ret (f := fun (z_2 : Str) => z_2) (ce_bin (fun _ _ => bop_cat) (ce_bin (fun _ _ => bop_cat) (ce_sliceS (ce_var (i := 6) (y := word_here_0) rfl) co_none (co_some ce_int)) ce_str) (ce_sliceS (ce_var (i := 6) (y := word_here_0) rfl) (co_some ce_int) co_none)) (fun _ => .inl rfl) (List.nil_sublist _)) (cs_ret (f := fun (z_3 : Str) => z_3) (ce_var (i := 6) (y := word_here_0) rfl) (fun _ => .inr rfl) (List.nil_sublist _)) rfl) rfl) rfl) (by unfold m_q_word; simp only [M.bindK, M.bind_assoc, M.bindP, eqB, memB, absI, maxI, minI]; try rfl)
theorem c_q_word (Z : Facts w K mg) : Callable P w K mg base cA 1 "_law_word" (He.ga K "_law_word") ["_law_number", "_law_more"] (Fv2 m_q_word) :=
  ⟨Z.g_q_word, Z.d_q_word.choose_spec.kp, _, ok_q_word Z, FunD.bindsN Z.d_q_word.choose_spec (fun _ _ _ _ _ _ us hl => match us, hl with | [_, _], _ => rfl)⟩
theorem ok_q_is_name (Z : Facts w K mg) : FnOk P w K mg base (L2.CX P w) 1 (He.ga K "_law_is_name") (Z.d_q_is_name.choose) ["_law_word_here"] (SpF K cA (Fv1 m_q_is_name)) := by
  refine fn_ok1 Z.d_q_is_name.choose_spec scq_is_name rfl fun cdv A outer s H E hr word_here_0 => ?_
  conv => arg 4; whnf
  exact cs_is (m := _) (cs_ifX (CW.ct (cw_or (ct_cmp (fun _ _ => bop_lt) (ce_blt1 (fun _ => bc_lenS) (ce_var (i := 0) (y := word_here_0) rfl) rfl Z.b_len (by decide +kernel)) ce_int rfl) (cw_or (ct_cmp (fun _ _ => bop_gt) (ce_blt1 (fun _ => bc_lenS) (ce_var (i := 0) (y := word_here_0) rfl) rfl Z.b_len (by decide +kernel)) ce_int rfl) (cw_or1 (ct_cmp (fun _ _ => bop_niC) (ce_sub (fun _ _ => xop_str) (ce_var (i := 0) (y := word_here_0) rfl) ce_int) ce_str rfl))))) (cs_ret (f := fun (z_0 : Bool) => z_0) ce_bl (fun _ => .inl rfl) (List.nil_sublist _)) (cs_ret (f := fun (z_1 : Bool) => z_1) (ce_blt1 (fun _ => bc_all) (ce_of_cn (cn_lcP (p := fun (e_0 : Ch) => (decide (e_0.code ∈ ("abcdefghijklmnopqrstuvwxyz0123456789" : Str).cps.toList))) rfl scq_is_name.nd (blkOk_by (own := [("_law_char", 1)]) (N := nq_is_name) (sc := defScope sq_is_name) (by decide +kernel)) (ci_str (ce_var (i := 0) (y := word_here_0) rfl)) (fun _ _ _ _ _ => (cg_name (α := Ch) (i := 1) scq_is_name.nd)) (fun (e_0 : Ch) _ _ _ _ _ => (ce_cmp (fun _ _ => bop_inC) (ce_var (i := 1) (y := e_0) rfl) ce_str rfl)))) rfl Z.b_all (by decide +kernel)) (fun _ => .inr rfl) (List.nil_sublist _)) rfl) (by unfold m_q_is_name; simp only [M.bindK, M.bind_assoc, M.bindP, eqB, memB, absI, maxI, minI]; try rfl)
theorem c_q_is_name (Z : Facts w K mg) : Callable P w K mg base cA 1 "_law_is_name" (He.ga K "_law_is_name") ["_law_word_here"] (Fv1 m_q_is_name) :=
  ⟨Z.g_q_is_name, Z.d_q_is_name.choose_spec.kp, _, ok_q_is_name Z, FunD.bindsN Z.d_q_is_name.choose_spec (fun _ _ _ _ _ _ us hl => match us, hl with | [_], _ => rfl)⟩
theorem ok_q_all_names (Z : Facts w K mg) : FnOk P w K mg base (L2.CX P w) 2 (He.ga K "_law_all_names") (Z.d_q_all_names.choose) ["_law_words"] (SpF K cA (Fv1 m_q_all_names)) := by
  refine fn_ok1 Z.d_q_all_names.choose_spec scq_all_names rfl fun cdv A outer s H E hr words_0 => ?_
  conv => arg 4; whnf
  exact cs_is (m := _) (cs_ret (f := fun (z_0 : Bool) => z_0) (ce_blt1 (fun _ => bc_all) (ce_of_cn (cn_lc (me := fun (e_0 : Str) => m_q_is_name e_0) rfl scq_all_names.nd (blkOk_by (own := [("_law_word_here", 1)]) (N := nq_all_names) (sc := defScope sq_all_names) (by decide +kernel)) (ci_list (ce_var (i := 0) (y := words_0) rfl)) (fun _ _ _ _ _ => (cg_name (α := Str) (i := 1) scq_all_names.nd)) (fun (e_0 : Str) _ _ _ _ _ => ce_is (ce_c1 (g := m_q_is_name) (c_q_is_name Z) (hr.mono (by decide)) rfl takes_no (ce_var (i := 1) (y := e_0) rfl)) (by rfl)))) rfl Z.b_all (by decide +kernel)) (fun _ => .inr rfl) (List.nil_sublist _)) (by unfold m_q_all_names; simp only [M.bindK, M.bind_assoc, M.bindP, eqB, memB, absI, maxI, minI]; try rfl)
theorem c_q_all_names (Z : Facts w K mg) : Callable P w K mg base cA 2 "_law_all_names" (He.ga K "_law_all_names") ["_law_words"] (Fv1 m_q_all_names) :=
  ⟨Z.g_q_all_names, Z.d_q_all_names.choose_spec.kp, _, ok_q_all_names Z, FunD.bindsN Z.d_q_all_names.choose_spec (fun _ _ _ _ _ _ us hl => match us, hl with | [_], _ => rfl)⟩
theorem ok_q_row_due (Z : Facts w K mg) : FnOk P w K mg base (L2.CX P w) 2 (He.ga K "_law_row_due") (Z.d_q_row_due.choose) ["_law_words"] (SpF K cA (Fv1 m_q_row_due)) := by
  refine fn_ok1 Z.d_q_row_due.choose_spec scq_row_due rfl fun cdv A outer s H E hr words_0 => ?_
  conv => arg 4; whnf
  exact cs_is (m := _) (cs_setN (i := 1) (cn_nil (α := (Str × Str))) (nd := scq_row_due.nd) fun (row_here_0 : (List (Str × Str))) a_0 => cs_for (S := (List (Str × Str))) (mb := m_q_row_due_b1) (s0 := row_here_0) (fun (s_0 : (List (Str × Str))) (as_0 : List Addr) => ([some (enc words_0), some (.own a_0), none, none] : Fm)) (fun (s_0 : (List (Str × Str))) (as_0 : List Addr) => ([(a_0, Cell.lst (encL s_0))] : Led)) (passes_of rfl) rfl (ci_list (ce_var (i := 0) (y := words_0) rfl)) (cg_name (α := Str) (i := 2) scq_row_due.nd) (fun s_0 as_0 (e_0 : Str) => cs_is (m := _) (cs_set (i := 3) (ce_ms1 PySem.F.slot_str_find PySem.F.type_str_find (fun _ _ => ms_find) (ce_var (i := 2) (y := e_0) rfl) ce_str) (nd := scq_row_due.nd) fun (spot_0 : Int) => cs_ifX (CW.ct (cw_or (ct_cmp (fun _ _ => bop_lt) (ce_var (i := 3) (y := spot_0) rfl) ce_int rfl) (cw_or (ct_not (ct_val (ce_c1 (g := m_q_is_name) (c_q_is_name Z) (hr.mono (by decide)) rfl (takes_of rfl rfl rfl rfl) (ce_sliceS (ce_var (i := 2) (y := e_0) rfl) co_none (co_some (ce_var (i := 3) (y := spot_0) rfl)))))) (cw_or1 (ct_not (ct_val (ce_c1 (g := m_q_is_name) (c_q_is_name Z) (hr.mono (by decide)) rfl (takes_of rfl rfl rfl rfl) (ce_sliceS (ce_var (i := 2) (y := e_0) rfl) (co_some (ce_bin (fun _ _ => bop_add) (ce_var (i := 3) (y := spot_0) rfl) ce_int)) co_none)))))))) (cs_ret (f := fun (z_0 : (Option (List (Str × Str)))) => (Fl.out z_0)) (ce_nonO (α := (List (Str × Str)))) (fun _ => .inl rfl) (List.nil_sublist _)) (cs_append (i := 1) (j := 0) (a := a_0) (xs := s_0) rfl rfl (ce_tup2 (ce_sliceS (ce_var (i := 2) (y := e_0) rfl) co_none (co_some (ce_var (i := 3) (y := spot_0) rfl))) (ce_sliceS (ce_var (i := 2) (y := e_0) rfl) (co_some (ce_bin (fun _ _ => bop_add) (ce_var (i := 3) (y := spot_0) rfl) ce_int)) co_none)) fun (y_0 : (Str × Str)) => cs_nil (o := (Fl.nx (s_0 ++ [y_0]))) [] rfl (wk_of (wkf_keep (wkf_keep (wkf_drop (wkf_drop wkf_nil)))) (wkl_keep wkl_nil))) rfl) (by unfold m_q_row_due_b1; simp only [M.bindK, M.bind_assoc, M.bindP, eqB, memB, absI, maxI, minI]; try rfl)) (fun s_0 as_0 => cs_frz (i := 1) (j := 0) (a := a_0) (xs := s_0) rfl rfl <| cs_ret (f := fun (z_1 : (Option (List (Str × Str)))) => z_1) (ce_as (f := fun z => (some z : (Option (List (Str × Str))))) (ce_var (i := 1) (y := s_0) rfl) (fun _ => rfl)) (fun _ => .inr rfl) (List.nil_sublist _)) [] (wk_of (wkf_keep (wkf_keep (wkf_drop (wkf_drop wkf_nil)))) (wkl_keep wkl_nil))) (by unfold m_q_row_due; simp only [M.bindK, M.bind_assoc, M.bindP, eqB, memB, absI, maxI, minI]; try rfl)
theorem c_q_row_due (Z : Facts w K mg) : Callable P w K mg base cA 2 "_law_row_due" (He.ga K "_law_row_due") ["_law_words"] (Fv1 m_q_row_due) :=
  ⟨Z.g_q_row_due, Z.d_q_row_due.choose_spec.kp, _, ok_q_row_due Z, FunD.bindsN Z.d_q_row_due.choose_spec (fun _ _ _ _ _ _ us hl => match us, hl with | [_], _ => rfl)⟩
theorem ok_q_command (Z : Facts w K mg) : FnOk P w K mg base (L2.CX P w) 3 (He.ga K "_law_command") (Z.d_q_command.choose) ["_law_words"] (SpF K cA (Fv1 m_q_command)) := by
  refine fn_ok1 Z.d_q_command.choose_spec scq_command rfl fun cdv A outer s H E hr words_0 => ?_
  conv => arg 4; whnf
  exact cs_is (m := _) (cs_set (i := 1) (ce_sub (fun _ _ => xop_list) (ce_var (i := 0) (y := words_0) rfl) ce_int) (nd := scq_command.nd) fun (first_0 : Str) => cs_set (i := 2) (ce_of_cn (cn_slice (ce_var (i := 0) (y := words_0) rfl) (co_some ce_int) co_none)) (nd := scq_command.nd) fun (rest_0 : (List Str)) => cs_ifX (ct_cmp (fun _ _ => bop_eq hr.units) (ce_var (i := 1) (y := first_0) rfl) ce_str rfl) (cs_ret (f := fun (z_0 : Bool) => z_0) (ce_and (ce_cmp (fun _ _ => bop_gt) (ce_blt1 (fun _ => bc_lenL) (ce_var (i := 2) (y := rest_0) rfl) rfl Z.b_len (by decide +kernel)) ce_int rfl) (ce_and (ce_c1 (g := m_q_is_name) (c_q_is_name Z) (hr.mono (by decide)) rfl (takes_of rfl rfl rfl rfl) (ce_sub (fun _ _ => xop_list) (ce_var (i := 2) (y := rest_0) rfl) ce_int)) (ce_one (ce_cmp (fun _ _ => bop_notN) (ce_c1 (g := m_q_row_due) (c_q_row_due Z) (hr.mono (by decide)) rfl (takes_of rfl rfl rfl rfl) (ce_of_cn (cn_slice (ce_var (i := 2) (y := rest_0) rfl) (co_some ce_int) co_none))) ce_non rfl)))) (fun _ => .inl rfl) (List.nil_sublist _)) (cs_ifX (ct_cmp (fun _ _ => bop_inT hr.units) (ce_var (i := 1) (y := first_0) rfl) (ce_tupLP (xs := [("undo" : Str), ("redo" : Str), ("answers" : Str), ("books" : Str), ("questions" : Str)]) (calp_str (calp_str (calp_str (calp_str (calp_str (calp_nil (α := Str)))))))) rfl) (cs_ret (f := fun (z_1 : Bool) => z_1) (ce_cmp (fun _ _ => bop_eq hr.units) (ce_blt1 (fun _ => bc_lenL) (ce_var (i := 2) (y := rest_0) rfl) rfl Z.b_len (by decide +kernel)) ce_int rfl) (fun _ => .inl rfl) (List.nil_sublist _)) (cs_ifX (ct_cmp (fun _ _ => bop_inT hr.units) (ce_var (i := 1) (y := first_0) rfl) (ce_tupLP (xs := [("book" : Str), ("drop" : Str), ("answer" : Str), ("print" : Str), ("remove" : Str)]) (calp_str (calp_str (calp_str (calp_str (calp_str (calp_nil (α := Str)))))))) rfl) (cs_ret (f := fun (z_2 : Bool) => z_2) (ce_and (ce_cmp (fun _ _ => bop_eq hr.units) (ce_blt1 (fun _ => bc_lenL) (ce_var (i := 2) (y := rest_0) rfl) rfl Z.b_len (by decide +kernel)) ce_int rfl) (ce_one (ce_c1 (g := m_q_is_name) (c_q_is_name Z) (hr.mono (by decide)) rfl (takes_of rfl rfl rfl rfl) (ce_sub (fun _ _ => xop_list) (ce_var (i := 2) (y := rest_0) rfl) ce_int)))) (fun _ => .inl rfl) (List.nil_sublist _)) (cs_ifX (ct_cmp (fun _ _ => bop_eq hr.units) (ce_var (i := 1) (y := first_0) rfl) ce_str rfl) (cs_ret (f := fun (z_3 : Bool) => z_3) (ce_and (ce_cmp (fun _ _ => bop_eq hr.units) (ce_blt1 (fun _ => bc_lenL) (ce_var (i := 2) (y := rest_0) rfl) rfl Z.b_len (by decide +kernel)) ce_int rfl) (ce_and (ce_c1 (g := m_q_all_names) (c_q_all_names Z) (hr.mono (by decide)) rfl (takes_of rfl rfl rfl rfl) (ce_of_cn (cn_slice (ce_var (i := 2) (y := rest_0) rfl) co_none (co_some ce_int)))) (ce_one (ce_cmp (fun _ _ => bop_inT hr.units) (ce_sub (fun _ _ => xop_list) (ce_var (i := 2) (y := rest_0) rfl) ce_int) (ce_tupLP (xs := [("yes" : Str), ("no" : Str)]) (calp_str (calp_str (calp_nil (α := Str))))) rfl)))) (fun _ => .inl rfl) (List.nil_sublist _)) (cs_ifX (CW.ct (cw_or (ct_cmp (fun _ _ => bop_ne hr.units) (ce_var (i := 1) (y := first_0) rfl) ce_str rfl) (cw_or (ct_cmp (fun _ _ => bop_lt) (ce_blt1 (fun _ => bc_lenL) (ce_var (i := 2) (y := rest_0) rfl) rfl Z.b_len (by decide +kernel)) ce_int rfl) (cw_or1 (ct_not (ct_val (ce_c1 (g := m_q_all_names) (c_q_all_names Z) (hr.mono (by decide)) rfl (takes_of rfl rfl rfl rfl) (ce_var (i := 2) (y := rest_0) rfl)))))))) (cs_ret (f := fun (z_4 : Bool) => z_4) ce_bl (fun _ => .inl rfl) (List.nil_sublist _)) (cs_ret (f := fun (z_5 : Bool) => z_5) (ce_cmp (fun _ _ => bop_inT hr.units) (ce_tup2 (ce_sub (fun _ _ => xop_list) (ce_var (i := 2) (y := rest_0) rfl) ce_int) (ce_blt1 (fun _ => bc_lenL) (ce_var (i := 2) (y := rest_0) rfl) rfl Z.b_len (by decide +kernel))) (ce_tupLP (xs := [(("alike" : Str), 4), (("ever" : Str), 3), (("places" : Str), 3)]) (calp_cons (x := (("alike" : Str), 4)) (ce_tup2 ce_str ce_int) (calp_cons (x := (("ever" : Str), 3)) (ce_tup2 ce_str ce_int) (calp_cons (x := (("places" : Str), 3)) (ce_tup2 ce_str ce_int) (calp_nil (α := (Str × Int))))))) rfl) (fun _ => .inr rfl) (List.nil_sublist _)) rfl) rfl) rfl) rfl) rfl) (by unfold m_q_command; simp only [M.bindK, M.bind_assoc, M.bindP, eqB, memB, absI, maxI, minI]; try rfl)
theorem c_q_command (Z : Facts w K mg) : Callable P w K mg base cA 3 "_law_command" (He.ga K "_law_command") ["_law_words"] (Fv1 m_q_command) :=
  ⟨Z.g_q_command, Z.d_q_command.choose_spec.kp, _, ok_q_command Z, FunD.bindsN Z.d_q_command.choose_spec (fun _ _ _ _ _ _ us hl => match us, hl with | [_], _ => rfl)⟩
theorem ok_q_formed (Z : Facts w K mg) : FnOk P w K mg base (L2.CX P w) 2 (He.ga K "_law_formed") (Z.d_q_formed.choose) ["_law_numbers_here", "_law_words"] (SpN K cA (Nv2 m_q_formed)) := by
  refine fn_okN2 Z.d_q_formed.choose_spec scq_formed rfl fun cdv A outer s H E hr numbers_here_0 words_0 => ?_
  conv => arg 4; whnf
  exact cs_is (m := _) (cs_set (i := 3) (ce_of_cn (cn_cat (ce_of_cn (cn_lcF (mt := fun (e_0 : Str) => m_q_is_name e_0) (me := fun (e_0 : Str) => .ok e_0) rfl scq_formed.nd (blkOk_by (own := [("_law_word_here", 2)]) (N := nq_formed) (sc := defScope sq_formed) (by decide +kernel)) (ci_list (ce_var (i := 1) (y := words_0) rfl)) (fun _ _ _ _ _ => (cg_name (α := Str) (i := 2) scq_formed.nd)) (fun (e_0 : Str) _ _ _ _ _ => ct_is (ct_val (ce_c1 (g := m_q_is_name) (c_q_is_name Z) (hr.mono (by decide)) rfl takes_no (ce_var (i := 2) (y := e_0) rfl))) (by rfl)) (fun (e_0 : Str) _ _ _ _ _ => ce_is (ce_var (i := 2) (y := e_0) rfl) (by rfl)))) (ce_of_cn (cn_lstP (α := Str) (xs := [("a" : Str), ("b" : Str), ("c" : Str)]) (calp_str (calp_str (calp_str (calp_nil (α := Str))))))))) (nd := scq_formed.nd) fun (names_0 : (List Str)) => cs_set (i := 4) (ce_modC (ce_ty1 (fun _ => bc_int) (ce_sub (fun _ _ => xop_list) (ce_var (i := 0) (y := numbers_here_0) rfl) ce_int) rfl Z.b_int (by decide +kernel))) (nd := scq_formed.nd) fun (kind_0 : Int) => cs_ifX (ct_cmp (fun _ _ => bop_lt) (ce_var (i := 4) (y := kind_0) rfl) ce_int rfl) (cs_retCN (f := fun (z_0 : (List Str)) => z_0) (cn_is (m' := ((idx (⟨[("undo" : Str), ("redo" : Str), ("answers" : Str), ("books" : Str), ("questions" : Str)]⟩ : (Tup Str)).l kind_0).bind fun (r_3 : Str) => .ok ([r_3]))) (cn_lstS (α := Str) (cals_cons (ce_sub (fun _ _ => xop_tup) (ce_tupLP (xs := [("undo" : Str), ("redo" : Str), ("answers" : Str), ("books" : Str), ("questions" : Str)]) (calp_str (calp_str (calp_str (calp_str (calp_str (calp_nil (α := Str)))))))) (ce_var (i := 4) (y := kind_0) rfl)) (cals_nil (α := Str)))) (by simp only [M.bind_assoc, M.bind_ok])) (fun _ => rfl)) (cs_ifX (ct_cmp (fun _ _ => bop_lt) (ce_var (i := 4) (y := kind_0) rfl) ce_int rfl) (cs_retCN (f := fun (z_1 : (List Str)) => z_1) (cn_is (m' := (((((idx numbers_here_0 43).bind fun (r_5 : Int) => .ok (r_5)).bind fun (r_6 : Int) => .ok ((r_6 % 5))).bind fun (r_7 : Int) => idx (⟨[("book" : Str), ("drop" : Str), ("answer" : Str), ("print" : Str), ("remove" : Str)]⟩ : (Tup Str)).l r_7).bind fun (r_8 : Str) => (idx names_0 0).bind fun (r_9 : Str) => .ok ([r_8, r_9]))) (cn_lstS (α := Str) (cals_cons (ce_sub (fun _ _ => xop_tup) (ce_tupLP (xs := [("book" : Str), ("drop" : Str), ("answer" : Str), ("print" : Str), ("remove" : Str)]) (calp_str (calp_str (calp_str (calp_str (calp_str (calp_nil (α := Str)))))))) (ce_modC (ce_ty1 (fun _ => bc_int) (ce_sub (fun _ _ => xop_list) (ce_var (i := 0) (y := numbers_here_0) rfl) ce_int) rfl Z.b_int (by decide +kernel)))) (cals_cons (ce_sub (fun _ _ => xop_list) (ce_var (i := 3) (y := names_0) rfl) ce_int) (cals_nil (α := Str))))) (by simp only [M.bind_assoc, M.bind_ok])) (fun _ => rfl)) (cs_ifX (ct_cmp (fun _ _ => bop_eq hr.units) (ce_var (i := 4) (y := kind_0) rfl) ce_int rfl) (cs_retCN (f := fun (z_2 : (List Str)) => z_2) (cn_is (m' := ((idx names_0 0).bind fun (r_14 : Str) => (idx names_0 1).bind fun (r_15 : Str) => ((((idx numbers_here_0 43).bind fun (r_11 : Int) => .ok (r_11)).bind fun (r_12 : Int) => .ok ((r_12 % 2))).bind fun (r_13 : Int) => idx (⟨[("yes" : Str), ("no" : Str)]⟩ : (Tup Str)).l r_13).bind fun (r_16 : Str) => .ok ([("set" : Str), r_14, r_15, r_16]))) (cn_lstS (α := Str) (cals_cons ce_str (cals_cons (ce_sub (fun _ _ => xop_list) (ce_var (i := 3) (y := names_0) rfl) ce_int) (cals_cons (ce_sub (fun _ _ => xop_list) (ce_var (i := 3) (y := names_0) rfl) ce_int) (cals_cons (ce_sub (fun _ _ => xop_tup) (ce_tupLP (xs := [("yes" : Str), ("no" : Str)]) (calp_str (calp_str (calp_nil (α := Str))))) (ce_modC (ce_ty1 (fun _ => bc_int) (ce_sub (fun _ _ => xop_list) (ce_var (i := 0) (y := numbers_here_0) rfl) ce_int) rfl Z.b_int (by decide +kernel)))) (cals_nil (α := Str))))))) (by simp only [M.bind_assoc, M.bind_ok])) (fun _ => rfl)) (cs_ifX (ct_cmp (fun _ _ => bop_eq hr.units) (ce_var (i := 4) (y := kind_0) rfl) ce_int rfl) (cs_retCN (f := fun (z_3 : (List Str)) => z_3) (cn_is (m' := ((idx names_0 0).bind fun (r_18 : Str) => (idx names_0 1).bind fun (r_19 : Str) => (idx names_0 2).bind fun (r_20 : Str) => .ok ([("ask" : Str), r_18, ("alike" : Str), r_19, r_20]))) (cn_lstS (α := Str) (cals_cons ce_str (cals_cons (ce_sub (fun _ _ => xop_list) (ce_var (i := 3) (y := names_0) rfl) ce_int) (cals_cons ce_str (cals_cons (ce_sub (fun _ _ => xop_list) (ce_var (i := 3) (y := names_0) rfl) ce_int) (cals_cons (ce_sub (fun _ _ => xop_list) (ce_var (i := 3) (y := names_0) rfl) ce_int) (cals_nil (α := Str)))))))) (by simp only [M.bind_assoc, M.bind_ok])) (fun _ => rfl)) (cs_ifX (ct_cmp (fun _ _ => bop_eq hr.units) (ce_var (i := 4) (y := kind_0) rfl) ce_int rfl) (cs_retCN (f := fun (z_4 : (List Str)) => z_4) (cn_is (m' := ((idx names_0 0).bind fun (r_25 : Str) => ((((idx numbers_here_0 43).bind fun (r_22 : Int) => .ok (r_22)).bind fun (r_23 : Int) => .ok ((r_23 % 2))).bind fun (r_24 : Int) => idx (⟨[("ever" : Str), ("places" : Str)]⟩ : (Tup Str)).l r_24).bind fun (r_26 : Str) => (idx names_0 1).bind fun (r_27 : Str) => .ok ([("ask" : Str), r_25, r_26, r_27]))) (cn_lstS (α := Str) (cals_cons ce_str (cals_cons (ce_sub (fun _ _ => xop_list) (ce_var (i := 3) (y := names_0) rfl) ce_int) (cals_cons (ce_sub (fun _ _ => xop_tup) (ce_tupLP (xs := [("ever" : Str), ("places" : Str)]) (calp_str (calp_str (calp_nil (α := Str))))) (ce_modC (ce_ty1 (fun _ => bc_int) (ce_sub (fun _ _ => xop_list) (ce_var (i := 0) (y := numbers_here_0) rfl) ce_int) rfl Z.b_int (by decide +kernel)))) (cals_cons (ce_sub (fun _ _ => xop_list) (ce_var (i := 3) (y := names_0) rfl) ce_int) (cals_nil (α := Str))))))) (by simp only [M.bind_assoc, M.bind_ok])) (fun _ => rfl)) (cs_retCN (f := fun (z_5 : (List Str)) => z_5) (cn_cat (ce_of_cn (cn_is (m' := ((idx names_0 0).bind fun (r_29 : Str) => .ok ([("read" : Str), r_29]))) (cn_lstS (α := Str) (cals_cons ce_str (cals_cons (ce_sub (fun _ _ => xop_list) (ce_var (i := 3) (y := names_0) rfl) ce_int) (cals_nil (α := Str))))) (by simp only [M.bind_assoc, M.bind_ok]))) (ce_of_cn (cn_lc (me := fun (e_1 : Int) => (((modI (e_1 + 1) (names_0.length : Int)).bind fun (r_33 : Int) => idx names_0 r_33).bind fun (r_34 : Str) => catS r_34 (":" : Str)).bind fun (r_35 : Str) => (idx names_0 (e_1 % 2)).bind fun (r_36 : Str) => catS r_35 r_36) rfl scq_formed.nd (blkOk_by (own := [("_law_k", 5)]) (N := nq_formed) (sc := defScope sq_formed) (by decide +kernel)) (ci_range1 (ce_modC (ce_ty1 (fun _ => bc_int) (ce_sub (fun _ _ => xop_list) (ce_var (i := 0) (y := numbers_here_0) rfl) ce_int) rfl Z.b_int (by decide +kernel))) rfl Z.b_range) (fun _ _ _ _ _ => (cg_name (α := Int) (i := 5) scq_formed.nd)) (fun (e_1 : Int) _ _ _ _ _ => ce_is (ce_bin (fun _ _ => bop_cat) (ce_bin (fun _ _ => bop_cat) (ce_sub (fun _ _ => xop_list) (ce_var (i := 3) (y := names_0) rfl) (ce_bin (fun _ _ => bop_mod) (ce_bin (fun _ _ => bop_add) (ce_var (i := 5) (y := e_1) rfl) ce_int) (ce_blt1 (fun _ => bc_lenL) (ce_var (i := 3) (y := names_0) rfl) rfl Z.b_len (by decide +kernel)))) ce_str) (ce_sub (fun _ _ => xop_list) (ce_var (i := 3) (y := names_0) rfl) (ce_modC (ce_var (i := 5) (y := e_1) rfl)))) (by rfl))))) (fun _ => rfl)) rfl) rfl) rfl) rfl) rfl) (by unfold m_q_formed; simp only [M.bindK, M.bind_assoc, M.bindP, eqB, memB, absI, maxI, minI]; try rfl)
theorem c_q_formed (Z : Facts w K mg) : CallableN P w K mg base cA 2 "_law_formed" (He.ga K "_law_formed") ["_law_numbers_here", "_law_words"] (Nv2 m_q_formed) :=
  ⟨Z.g_q_formed, Z.d_q_formed.choose_spec.kp, _, ok_q_formed Z, FunD.bindsN Z.d_q_formed.choose_spec (fun _ _ _ _ _ _ us hl => match us, hl with | [_, _], _ => rfl)⟩
theorem run_law_ (hroom : Room 4 callerA) {R : List Int → Prop} (Z : Facts w K mg) (hR : ∀ ns, R ns → m_law ns = .ok true) : RunAt callerA P w K mg base (L2.CX P w) (He.ga K "law") (Z.d_law.choose) ["_law_script"] (SpLaw K cA R) := by
  refine run_law Z.d_law.choose_spec sclaw rfl hroom (fun cdv A outer s H E hr hgd script_0 => ?_) hR
  conv => arg 4; whnf
  exact cs_is (m := _) (cs_set (i := 1) (ce_c2 (g := m_q_numbers) (c_q_numbers Z) (hr.mono (by decide)) rfl (takes_of rfl rfl rfl rfl) (ce_var (i := 0) (y := script_0) rfl) ce_int) (nd := sclaw.nd) fun (numbers_here_0 : (List Int)) => cs_setL (i := 3) (cl_lc (me := fun (e_0 : Int) => (idx numbers_here_0 (2 * e_0)).bind fun (r_4 : Int) => (idx numbers_here_0 ((2 * e_0) + 1)).bind fun (r_5 : Int) => m_q_word r_4 r_5) rfl sclaw.nd (blkOk_by (own := [("_law_k", 2)]) (N := nlaw) (sc := defScope slaw) (by decide +kernel)) (ci_range1 (ce_bin (fun _ _ => bop_add) ce_int (ce_modC (ce_ty1 (fun _ => bc_int) (ce_sub (fun _ _ => xop_list) (ce_var (i := 1) (y := numbers_here_0) rfl) ce_int) rfl Z.b_int (by decide +kernel)))) rfl Z.b_range) (fun _ _ _ _ _ => (cg_name (α := Int) (i := 2) sclaw.nd)) (fun (e_0 : Int) _ _ _ _ _ => ce_is (ce_c2 (g := m_q_word) (c_q_word Z) (hr.mono (by decide)) rfl takes_no (ce_sub (fun _ _ => xop_list) (ce_var (i := 1) (y := numbers_here_0) rfl) (ce_Cmul (ce_var (i := 2) (y := e_0) rfl))) (ce_sub (fun _ _ => xop_list) (ce_var (i := 1) (y := numbers_here_0) rfl) (ce_bin (fun _ _ => bop_add) (ce_Cmul (ce_var (i := 2) (y := e_0) rfl)) ce_int))) (by rfl))) (hsw := sw_true rfl rfl rfl (by decide +kernel)) fun (words_0 : (List Str)) => cs_ifJ (S := (List Str)) (fun (s_0 : (List Str)) (as_0 : List Addr) => ([some (enc script_0), some (enc numbers_here_0), none, some (enc s_0), none, none, none, none, none, none, none] : Fm)) (fun (s_0 : (List Str)) (as_0 : List Addr) => ([] : Led)) (ct_cmp (fun _ _ => bop_gt) (ce_modC (ce_ty1 (fun _ => bc_int) (ce_sub (fun _ _ => xop_list) (ce_var (i := 1) (y := numbers_here_0) rfl) ce_int) rfl Z.b_int (by decide +kernel))) ce_int rfl) (cs_setN (i := 4) (cn_c2 (g := m_q_formed) (c_q_formed Z) (hr.mono (by decide)) rfl (takes_of rfl rfl rfl rfl) (ce_var (i := 1) (y := numbers_here_0) rfl) (ce_var (i := 3) (y := words_0) rfl)) (nd := sclaw.nd) fun (line_0 : (List Str)) a_0 => cs_set (i := 5) (ce_bin (fun _ _ => bop_mod) (ce_ty1 (fun _ => bc_int) (ce_sub (fun _ _ => xop_list) (ce_var (i := 1) (y := numbers_here_0) rfl) ce_int) rfl Z.b_int (by decide +kernel)) (ce_lenO (i := 4) (j := 0) (xs := line_0) rfl rfl rfl Z.b_len)) (nd := sclaw.nd) fun (place_0 : Int) => cs_ifJ (S := (List Str)) (fun (s_1 : (List Str)) (as_1 : List Addr) => ([some (enc script_0), some (enc numbers_here_0), none, some (enc words_0), some (.own a_0), some (enc place_0), none, none, none, none, none] : Fm)) (fun (s_1 : (List Str)) (as_1 : List Addr) => ([(a_0, Cell.lst (encL s_1))] : Led)) (ct_cmp (fun _ _ => bop_eq hr.units) (ce_modC (ce_ty1 (fun _ => bc_int) (ce_sub (fun _ _ => xop_list) (ce_var (i := 1) (y := numbers_here_0) rfl) ce_int) rfl Z.b_int (by decide +kernel))) ce_int rfl) (cs_store (i := 4) (j := 0) (a := a_0) (xs := line_0) rfl rfl (ce_sub (fun _ _ => xop_list) (ce_var (i := 3) (y := words_0) rfl) ce_int) (ce_var (i := 5) (y := place_0) rfl) fun (line_1 : (List Str)) => cs_nil (o := line_1) [] rfl (wk_of (wkf_keep (wkf_keep (wkf_drop (wkf_keep (wkf_keep (wkf_keep (wkf_drop (wkf_drop (wkf_drop (wkf_drop (wkf_drop wkf_nil))))))))))) (wkl_keep wkl_nil))) (cs_nil (o := line_0) [] rfl (wk_of (wkf_keep (wkf_keep (wkf_drop (wkf_keep (wkf_keep (wkf_keep (wkf_drop (wkf_drop (wkf_drop (wkf_drop (wkf_drop wkf_nil))))))))))) (wkl_keep wkl_nil))) fun s_1 as_1 => cs_ifJ (S := (List Str)) (fun (s_2 : (List Str)) (as_2 : List Addr) => ([some (enc script_0), some (enc numbers_here_0), none, some (enc words_0), some (.own (as_2.getD 0 0)), some (enc place_0), none, none, none, none, none] : Fm)) (fun (s_2 : (List Str)) (as_2 : List Addr) => ([((as_2.getD 0 0), Cell.lst (encL s_2))] : Led)) (CW.ct (cw_and (ct_cmp (fun _ _ => bop_eq hr.units) (ce_modC (ce_ty1 (fun _ => bc_int) (ce_sub (fun _ _ => xop_list) (ce_var (i := 1) (y := numbers_here_0) rfl) ce_int) rfl Z.b_int (by decide +kernel))) ce_int rfl) (cw_and1 (ct_cmp (fun _ _ => bop_gt) (ce_lenO (i := 4) (j := 0) (xs := s_1) rfl rfl rfl Z.b_len) ce_int rfl)))) (cs_setN (i := 4) (cn_cat (ce_of_cn (cn_sliceO (i := 4) (j := 0) (xs := s_1) rfl rfl co_none (co_some (ce_var (i := 5) (y := place_0) rfl)))) (ce_of_cn (cn_sliceO (i := 4) (j := 0) (xs := s_1) rfl rfl (co_some (ce_bin (fun _ _ => bop_add) (ce_var (i := 5) (y := place_0) rfl) ce_int)) co_none))) (nd := sclaw.nd) fun (line_2 : (List Str)) a_1 => cs_nil (o := line_2) [a_1] rfl (wk_of (wkf_keep (wkf_keep (wkf_drop (wkf_keep (wkf_keep (wkf_keep (wkf_drop (wkf_drop (wkf_drop (wkf_drop (wkf_drop wkf_nil))))))))))) (wkl_keep (wkl_drop wkl_nil)))) (cs_nil (o := s_1) [a_0] rfl (wk_of (wkf_keep (wkf_keep (wkf_drop (wkf_keep (wkf_keep (wkf_keep (wkf_drop (wkf_drop (wkf_drop (wkf_drop (wkf_drop wkf_nil))))))))))) (wkl_keep wkl_nil))) fun s_2 as_2 => cs_ifJ (S := (List Str)) (fun (s_3 : (List Str)) (as_3 : List Addr) => ([some (enc script_0), some (enc numbers_here_0), none, some (enc words_0), some (enc s_3), some (enc place_0), none, none, none, none, none] : Fm)) (fun (s_3 : (List Str)) (as_3 : List Addr) => ([] : Led)) (ct_cmp (fun _ _ => bop_eq hr.units) (ce_modC (ce_ty1 (fun _ => bc_int) (ce_sub (fun _ _ => xop_list) (ce_var (i := 1) (y := numbers_here_0) rfl) ce_int) rfl Z.b_int (by decide +kernel))) ce_int rfl) (cs_append (i := 4) (j := 0) (a := (as_2.getD 0 0)) (xs := s_2) rfl rfl (ce_sub (fun _ _ => xop_list) (ce_var (i := 3) (y := words_0) rfl) ce_int) fun (y_1 : Str) => cs_frz (i := 4) (j := 0) (a := (as_2.getD 0 0)) (xs := (s_2 ++ [y_1])) rfl rfl <| cs_nil (o := (s_2 ++ [y_1])) [] rfl (wk_of (wkf_keep (wkf_keep (wkf_drop (wkf_keep (wkf_keep (wkf_keep (wkf_drop (wkf_drop (wkf_drop (wkf_drop (wkf_drop wkf_nil))))))))))) wkl_nil)) (cs_frz (i := 4) (j := 0) (a := (as_2.getD 0 0)) (xs := s_2) rfl rfl <| cs_nil (o := s_2) [] rfl (wk_of (wkf_keep (wkf_keep (wkf_drop (wkf_keep (wkf_keep (wkf_keep (wkf_drop (wkf_drop (wkf_drop (wkf_drop (wkf_drop wkf_nil))))))))))) wkl_nil)) fun s_3 as_3 => cs_set (i := 3) (ce_var (i := 4) (y := s_3) rfl) (nd := sclaw.nd) fun (words_1 : (List Str)) => cs_nil (o := words_1) [] rfl (wk_of (wkf_keep (wkf_keep (wkf_drop (wkf_keep (wkf_drop (wkf_drop (wkf_drop (wkf_drop (wkf_drop (wkf_drop (wkf_drop wkf_nil))))))))))) wkl_nil)) (cs_nil (o := words_0) [] rfl (wk_of (wkf_keep (wkf_keep (wkf_drop (wkf_keep (wkf_drop (wkf_drop (wkf_drop (wkf_drop (wkf_drop (wkf_drop (wkf_drop wkf_nil))))))))))) wkl_nil)) fun s_0 as_0 => cs_set (i := 6) (ce_bin (fun _ _ => bop_mulS) ce_str (ce_modC (ce_ty1 (fun _ => bc_int) (ce_sub (fun _ _ => xop_list) (ce_var (i := 1) (y := numbers_here_0) rfl) ce_int) rfl Z.b_int (by decide +kernel)))) (nd := sclaw.nd) fun (text_0 : Str) => cs_for1 (S := Str) (mb := (m_law_b1 numbers_here_0 s_0)) (s0 := text_0) (fun (s_4 : Str) (as_4 : List Addr) => ([some (enc script_0), some (enc numbers_here_0), none, some (enc s_0), none, none, some (enc s_4), none, none, none, none] : Fm)) (fun (s_4 : Str) (as_4 : List Addr) => ([] : Led)) (passes_of rfl) rfl (ci_range1 (ce_blt1 (fun _ => bc_lenL) (ce_var (i := 3) (y := s_0) rfl) rfl Z.b_len (by decide +kernel)) rfl Z.b_range) (cg_name (α := Int) (i := 2) sclaw.nd) (fun s_4 as_4 (e_1 : Int) => cs_is (m := _) (cs_set (i := 6) (ce_bin (fun _ _ => bop_cat) (ce_var (i := 6) (y := s_4) rfl) (ce_sub (fun _ _ => xop_list) (ce_var (i := 3) (y := s_0) rfl) (ce_var (i := 2) (y := e_1) rfl))) (nd := sclaw.nd) fun (text_1 : Str) => cs_ifT (ct_cmp (fun _ _ => bop_lt) (ce_bin (fun _ _ => bop_add) (ce_var (i := 2) (y := e_1) rfl) ce_int) (ce_blt1 (fun _ => bc_lenL) (ce_var (i := 3) (y := s_0) rfl) rfl Z.b_len (by decide +kernel)) rfl) (cs_set (i := 6) (ce_bin (fun _ _ => bop_cat) (ce_var (i := 6) (y := text_1) rfl) (ce_bin (fun _ _ => bop_mulS) ce_str (ce_bin (fun _ _ => bop_add) ce_int (ce_modC (ce_ty1 (fun _ => bc_int) (ce_bin (fun _ _ => bop_add) (ce_sub (fun _ _ => xop_list) (ce_var (i := 1) (y := numbers_here_0) rfl) ce_int) (ce_bin (fun _ _ => bop_mul) (ce_var (i := 2) (y := e_1) rfl) (ce_sub (fun _ _ => xop_list) (ce_var (i := 1) (y := numbers_here_0) rfl) ce_int))) rfl Z.b_int (by decide +kernel)))))) (nd := sclaw.nd) fun (text_2 : Str) => cs_nil (o := text_2) [] rfl (wk_of (wkf_keep (wkf_keep (wkf_drop (wkf_keep (wkf_drop (wkf_drop (wkf_keep (wkf_drop (wkf_drop (wkf_drop (wkf_drop wkf_nil))))))))))) wkl_nil)) (cs_nil (o := text_1) [] rfl (wk_of (wkf_keep (wkf_keep (wkf_drop (wkf_keep (wkf_drop (wkf_drop (wkf_keep (wkf_drop (wkf_drop (wkf_drop (wkf_drop wkf_nil))))))))))) wkl_nil))) (by unfold m_law_b1; simp only [M.bindK, M.bind_assoc, M.bindP, eqB, memB, absI, maxI, minI]; try rfl)) (fun s_4 as_4 => cs_set (i := 6) (ce_bin (fun _ _ => bop_cat) (ce_var (i := 6) (y := s_4) rfl) (ce_bin (fun _ _ => bop_mulS) ce_str (ce_modC (ce_ty1 (fun _ => bc_int) (ce_sub (fun _ _ => xop_list) (ce_var (i := 1) (y := numbers_here_0) rfl) ce_int) rfl Z.b_int (by decide +kernel))))) (nd := sclaw.nd) fun (text_3 : Str) => cs_set (i := 7) (ce_c1 (g := m_split_words) (c_split_words Z) (hr.mono (by decide)) rfl (takes_of rfl rfl rfl rfl) (ce_var (i := 6) (y := text_3) rfl)) (nd := sclaw.nd) fun (told_0 : (List Str)) => cs_ifX (CW.ct (cw_or (ct_not (ct_val (ce_isi (T := "list") (n := "list") (ce_var (i := 7) (y := told_0) rfl) (by decide +kernel) rfl Z.b_isinstance rfl Z.b_list (by decide +kernel)))) (cw_or (ct_cmp (fun _ _ => bop_ne hr.units) (ce_var (i := 7) (y := told_0) rfl) (ce_var (i := 3) (y := s_0) rfl) rfl) (cw_or1 (ct_cmp (fun _ _ => bop_ne hr.units) (ce_c1 (g := m_split_words) (c_split_words Z) (hr.mono (by decide)) rfl (takes_of rfl rfl rfl rfl) (ce_bin (fun _ _ => bop_mulS) ce_str (ce_modC (ce_ty1 (fun _ => bc_int) (ce_sub (fun _ _ => xop_list) (ce_var (i := 1) (y := numbers_here_0) rfl) ce_int) rfl Z.b_int (by decide +kernel))))) (ce_of_cn (cn_nil (α := Str))) rfl))))) (cs_ret (f := fun (z_0 : Bool) => z_0) ce_bl (fun _ => .inl rfl) (List.nil_sublist _)) (cs_ifX (ct_cmp (fun _ _ => bop_ne hr.units) (ce_c1 (g := m_split_words) (c_split_words Z) (hr.mono (by decide)) rfl (takes_of rfl rfl rfl rfl) ce_str) (ce_of_cn (cn_lstP (α := Str) (xs := [("a\tb" : Str), ("\t" : Str)]) (calp_str (calp_str (calp_nil (α := Str)))))) rfl) (cs_ret (f := fun (z_1 : Bool) => z_1) ce_bl (fun _ => .inl rfl) (List.nil_sublist _)) (cs_set (i := 8) (ce_of_cn (cn_ty1 (fun _ => bn_listL) (ce_var (i := 3) (y := s_0) rfl) rfl Z.b_list (by decide +kernel))) (nd := sclaw.nd) fun (passed_0 : (List Str)) => cs_for (S := Unit) (mb := (m_law_b2 passed_0 s_0)) (s0 := ()) (fun (s_5 : Unit) (as_5 : List Addr) => ([some (enc script_0), some (enc numbers_here_0), none, some (enc s_0), none, none, some (enc text_3), some (enc told_0), some (enc passed_0), none, none] : Fm)) (fun (s_5 : Unit) (as_5 : List Addr) => ([] : Led)) (passes_of rfl) rfl (ci_range1 (ce_bin (fun _ _ => bop_add) (ce_blt1 (fun _ => bc_lenL) (ce_var (i := 3) (y := s_0) rfl) rfl Z.b_len (by decide +kernel)) ce_int) rfl Z.b_range) (cg_name (α := Int) (i := 9) sclaw.nd) (fun s_5 as_5 (e_2 : Int) => cs_is (m := _) (cs_ifT (ct_cmp (fun _ _ => bop_ne hr.units) (ce_blt1 (fun _ => bc_repr hgd hr.units) (ce_c1 (g := m_row_of) (c_row_of Z) (hr.mono (by decide)) rfl (takes_of rfl rfl rfl rfl) (ce_of_cn (cn_slice (ce_var (i := 8) (y := passed_0) rfl) (co_some (ce_var (i := 9) (y := e_2) rfl)) co_none))) rfl Z.b_repr (by decide +kernel)) (ce_blt1 (fun _ => bc_repr hgd hr.units) (ce_c1 (g := m_q_row_due) (c_q_row_due Z) (hr.mono (by decide)) rfl (takes_of rfl rfl rfl rfl) (ce_of_cn (cn_slice (ce_var (i := 3) (y := s_0) rfl) (co_some (ce_var (i := 9) (y := e_2) rfl)) co_none))) rfl Z.b_repr (by decide +kernel)) rfl) (cs_ret (f := fun (z_2 : Bool) => (Fl.out z_2)) ce_bl (fun _ => .inl rfl) (List.nil_sublist _)) (cs_nil (o := (Fl.nx ())) [] rfl (wk_of (wkf_keep (wkf_keep (wkf_drop (wkf_keep (wkf_drop (wkf_drop (wkf_keep (wkf_keep (wkf_keep (wkf_drop (wkf_drop wkf_nil))))))))))) wkl_nil))) (by unfold m_law_b2; simp only [M.bindK, M.bind_assoc, M.bindP, eqB, memB, absI, maxI, minI]; try rfl)) (fun s_5 as_5 => cs_set (i := 10) (ce_c1 (g := m_is_command) (c_is_command Z) (hr.mono (by decide)) rfl (takes_of rfl rfl rfl rfl) (ce_var (i := 8) (y := passed_0) rfl)) (nd := sclaw.nd) fun (actual_0 : Bool) => cs_ret (f := fun (z_3 : Bool) => z_3) (ce_and (ce_isi (T := "bool") (n := "bool") (ce_var (i := 10) (y := actual_0) rfl) (by decide +kernel) rfl Z.b_isinstance rfl Z.b_bool (by decide +kernel)) (ce_and (ce_cmp (fun _ _ => bop_eq hr.units) (ce_var (i := 10) (y := actual_0) rfl) (ce_c1 (g := m_q_command) (c_q_command Z) (hr.mono (by decide)) rfl (takes_of rfl rfl rfl rfl) (ce_var (i := 3) (y := s_0) rfl)) rfl) (ce_one (ce_cmp (fun _ _ => bop_eq hr.units) (ce_var (i := 8) (y := passed_0) rfl) (ce_var (i := 3) (y := s_0) rfl) rfl)))) (fun _ => .inr rfl) (List.nil_sublist _)) [] (wk_of (wkf_keep (wkf_keep (wkf_drop (wkf_keep (wkf_drop (wkf_drop (wkf_keep (wkf_keep (wkf_keep (wkf_drop (wkf_drop wkf_nil))))))))))) wkl_nil)) rfl) rfl) [] (wk_of (wkf_keep (wkf_keep (wkf_drop (wkf_keep (wkf_drop (wkf_drop (wkf_keep (wkf_drop (wkf_drop (wkf_drop (wkf_drop wkf_nil))))))))))) wkl_nil)) (by unfold m_law; simp only [M.bindK, M.bind_assoc, M.bindP, eqB, memB, absI, maxI, minI]; try rfl)
end
end Cl

/-! the plain law of k59, first part: the numbers -/
namespace Cl
open PySem PySem.Spec L2 Pf Tx
open PyProof.Rows hiding St
open M (need some!)
theorem row_ok {cell many : Int} (h0 : 0 ≤ many) (h1 : many ≤ 1000) : Ok (m_q_row cell many) fun xs => xs.length = many.toNat := by
  unfold m_q_row
  refine Ok.bind (Ok.range (by omega) (by omega) (by omega) (by omega)) fun ks hk => ?_
  subst hk
  refine Ok.bind (P := fun s => s.1.length = many.toNat) ?_ fun s hs => ⟨_, rfl, hs⟩
  have := Ok.foldM (f := m_q_row_b1 cell) (I := fun n s => s.1.length = n) (xs := rangeL 0 many) (s := ([], absI cell, (absI cell * 48271 + 69621) % 2147483647)) (n := 0) rfl fun k s x hk _ hi => by
    rw [rangeL_len] at hk
    unfold m_q_row_b1
    refine Ok.ite (fun _ => ?_) fun _ => ?_
    · refine Ok.needD (by rw [hi]; unfold sizeLine; omega) ⟨_, rfl, ?_⟩
      show (s.1 ++ [_]).length = _
      rw [List.length_append, hi]; rfl
    · refine Ok.needD (by rw [hi]; unfold sizeLine; omega) ⟨_, rfl, ?_⟩
      show (s.1 ++ [_]).length = _
      rw [List.length_append, hi]; rfl
  refine this.imp fun s hs => ?_
  rw [hs, rangeL_len]; omega
theorem cutL_none_some {α : Type} (xs : List α) (n : Nat) : cutL xs none (some (n : Int)) = xs.take n := by
  unfold cutL
  rw [HT.sIx_none, HT.sIx_nat, List.drop_zero, Nat.sub_zero]
  rw [List.take_eq_take_iff]
  omega
theorem cutL_some_none {α : Type} (xs : List α) (n : Nat) : cutL xs (some (n : Int)) none = xs.drop n := by
  unfold cutL
  rw [HT.sIx_none, HT.sIx_nat]
  rw [List.take_of_length_le (by rw [List.length_drop]; omega)]
  by_cases h : n ≤ xs.length
  · rw [Nat.min_eq_left h]
  · rw [Nat.min_eq_right (by omega), List.drop_of_length_le (Nat.le_refl _), List.drop_of_length_le (by omega)]
theorem numbers_ok {script : List Int} : Ok (m_q_numbers script 60) fun xs => xs.length = 60 := by
  unfold m_q_numbers
  generalize hc : cutL script none (some 63) = cells
  have hl : cells.length ≤ 63 := by
    rw [← hc, show (63 : Int) = ((63 : Nat) : Int) from rfl, cutL_none_some, List.length_take]; omega
  have hm : 1 ≤ maxI 1 (cells.length : Int) ∧ maxI 1 (cells.length : Int) ≤ 63 := by
    unfold maxI; split <;> omega
  refine Ok.bind (P := fun each => 1 ≤ each ∧ each ≤ 61) ?_ fun each he => ?_
  · refine Ok.bind (Ok.divI ⟨by omega, by omega⟩) fun r hr => ⟨_, rfl, ?_⟩
    subst hr
    have h1 : (0 : Int) ≤ 60 / maxI 1 (cells.length : Int) := Int.ediv_nonneg (by omega) (by omega)
    have h2 : (60 : Int) / maxI 1 (cells.length : Int) ≤ 60 := Int.ediv_le_self _ (by omega)
    omega
  · show Ok ((foldM (m_q_numbers_b2 each) [] cells).bind _) _
    refine Ok.bind (P := fun s => s.length ≤ 10000) ?_ fun s hs => ?_
    · have := Ok.foldM (f := m_q_numbers_b2 each) (I := fun n s => s.length = n * each.toNat) (xs := cells) (s := []) (n := 0) (by simp) fun k s x hk _ hi => by
        unfold m_q_numbers_b2
        refine Ok.bind (row_ok (by omega) (by omega)) fun row hrow => ?_
        refine Ok.bind (P := fun s' => s'.length = s.length + row.length) ?_ fun s' hs' => ⟨_, rfl, ?_⟩
        · have hb : s.length + row.length ≤ 10000 := by
            rw [hi, hrow]
            have : (0 + k) * each.toNat ≤ 63 * 61 := Nat.mul_le_mul (by omega) (by omega)
            omega
          have := Ok.foldM (f := m_q_numbers_b1) (I := fun n s' => s'.length = s.length + n) (xs := row) (s := s) (n := 0) rfl fun k s' x hk _ hi => by
            unfold m_q_numbers_b1
            refine Ok.needD (by rw [hi]; unfold sizeLine; omega) ⟨_, rfl, ?_⟩
            try dsimp only at hi ⊢
            rw [List.length_append, hi]; simp; omega
          refine this.imp fun s' h => by rw [h]; omega
        · try dsimp only at hi hs' ⊢
          rw [hs', hi, hrow, show 0 + k + 1 = (0 + k) + 1 from rfl, Nat.succ_mul]
      refine this.imp fun s hs => ?_
      rw [hs]
      have : (0 + cells.length) * each.toNat ≤ 63 * 61 := Nat.mul_le_mul (by omega) (by omega)
      omega
    · refine Ok.bind (P := fun s' => 60 ≤ s'.length) ?_ fun s' hs' => ⟨_, rfl, ?_⟩
      · refine Ok.whileS (I := fun s => s.length ≤ 10000) (fun s => 60 - s.length) FUEL s (FUEL_big (by omega)) hs fun s hi => ⟨_, rfl, fun ht => ?_, fun hf => ?_⟩
        · have ht := of_decide_eq_true ht
          unfold m_q_numbers_b3
          refine Ok.needD (by unfold sizeLine; omega) ⟨_, rfl, ?_, ?_⟩
          · rw [List.length_append]; simp; omega
          · rw [List.length_append]; simp; omega
        · have hf := of_decide_eq_false hf
          omega
      · show (cutL s' none (some 60)).length = 60
        rw [show (60 : Int) = ((60 : Nat) : Int) from rfl, cutL_none_some, List.length_take]; omega
end Cl

/-! the plain law of k59, second part: the words -/
namespace Cl
open PySem PySem.Spec L2 Pf Tx
open PyProof.Rows hiding St
open M (need some!)
/-- a word: not empty, no blank, short -/
def Good (w : Str) : Prop := 1 ≤ (cs w).length ∧ (cs w).length ≤ 40 ∧ 32 ∉ cs w
instance : DecidablePred Good := fun w => by unfold Good; exact inferInstance
theorem good_all : ∀ w ∈ (["book", "undo", "redo", "drop", "answer", "answers", "print", "read", "books", "questions", "ask", "set", "remove", "alike", "ever", "places", "yes", "no", "end", "7"] : List Str), Good w := by decide +kernel
theorem good_cat {x y : Str} (hx : Good x) (hl : (cs x).length + (cs y).length ≤ 40) (hy : 32 ∉ cs y) : Good (x ++ y) := by
  unfold Good
  rw [cs_append, List.length_append]
  exact ⟨by have := hx.1; omega, hl, fun z => (List.mem_append.mp z).elim hx.2.2 hy⟩
theorem letters_cs : cs ("abcdefghijklmnopqrstuvwxyz0123456789" : Str) = [97, 98, 99, 100, 101, 102, 103, 104, 105, 106, 107, 108, 109, 110, 111, 112, 113, 114, 115, 116, 117, 118, 119, 120, 121, 122, 48, 49, 50, 51, 52, 53, 54, 55, 56, 57] := by decide +kernel
theorem no32 : (32 : Nat) ∉ ([97, 98, 99, 100, 101, 102, 103, 104, 105, 106, 107, 108, 109, 110, 111, 112, 113, 114, 115, 116, 117, 118, 119, 120, 121, 122, 48, 49, 50, 51, 52, 53, 54, 55, 56, 57] : List Nat) := by decide
theorem letter_at {r : Int} (h0 : 0 ≤ r) (h1 : r < 36) : Ok (need (decide (("abcdefghijklmnopqrstuvwxyz0123456789" : Str).length ≤ sizeLine)) (idxS ("abcdefghijklmnopqrstuvwxyz0123456789" : Str) r)) fun c => (cs c.str).length = 1 ∧ 32 ∉ cs c.str := by
  have hl : (cs ("abcdefghijklmnopqrstuvwxyz0123456789" : Str)).length = 36 := by rw [letters_cs]; rfl
  refine (Ok.needD (sizeLine_big (by rw [← cs_length, hl]; omega)) (Ok.idxS h0 (by rw [hl]; exact h1))).imp fun c hc => ⟨rfl, ?_⟩
  rw [cs_ch]
  have := List.mem_of_getElem? hc
  rw [letters_cs] at this
  intro z
  rw [← List.mem_singleton.mp z] at this
  exact no32 this
theorem letter_ok (k : Int) : Ok ((need (decide (("abcdefghijklmnopqrstuvwxyz0123456789" : Str).length ≤ sizeLine)) (idxS ("abcdefghijklmnopqrstuvwxyz0123456789" : Str) (k % 36))).bind fun r => .ok r.str) fun w => (cs w).length = 1 ∧ 32 ∉ cs w :=
  Ok.bind (letter_at (Int.emod_nonneg _ (by omega)) (Int.emod_lt_of_pos _ (by omega))) fun c hc => ⟨_, rfl, hc⟩
theorem sum_ones : ∀ {ys : List Str}, (∀ y ∈ ys, (cs y).length = 1 ∧ 32 ∉ cs y) → (ys.map (·.length)).sum = ys.length ∧ ((ys.map cs).flatten).length = ys.length ∧ 32 ∉ (ys.map cs).flatten
  | [], _ => ⟨rfl, rfl, fun z => nomatch z⟩
  | y :: ys, h => by
    obtain ⟨a, b, c⟩ := sum_ones fun z hz => h z (List.mem_cons_of_mem _ hz)
    obtain ⟨h1, h2⟩ := h y List.mem_cons_self
    refine ⟨?_, ?_, ?_⟩
    · rw [List.map_cons, List.sum_cons, a, ← cs_length, h1, List.length_cons]; omega
    · rw [List.map_cons, List.flatten_cons, List.length_append, b, h1, List.length_cons]; omega
    · rw [List.map_cons, List.flatten_cons]
      exact fun z => (List.mem_append.mp z).elim h2 c
theorem mid_all : ∀ w ∈ ([":", ":a", "::b", ":1", ":a:b"] : List Str), (cs w).length ≤ 4 ∧ 32 ∉ cs w := by decide +kernel
theorem under_ok : cs ("_" : Str) = [95] := by decide +kernel
theorem good_take {x : Str} (h : Good x) (n : Nat) (hn : 1 ≤ n) {y : Str} (e : cs y = (cs x).take n) : Good y := by
  unfold Good
  rw [e, List.length_take]
  exact ⟨by have := h.1; omega, by have := h.2.1; omega, fun z => h.2.2 (List.mem_of_mem_take z)⟩
theorem word_ok (n m : Int) : Ok (m_q_word n m) Good := by
  unfold m_q_word
  refine Ok.bind (Ok.catT (by show 13 + 7 ≤ 1000000; omega)) fun ws hws => ?_
  subst hws
  refine Ok.ite (fun _ => ?_) fun _ => ?_
  · refine Ok.bind (Ok.idxM (Int.emod_nonneg _ (by omega)) (by show _ < ((20 : Nat) : Int); exact Int.emod_lt_of_pos _ (by omega))) fun w hw => ⟨w, rfl, ?_⟩
    exact good_all w hw
  · refine Ok.bind (P := fun w => Good w ∧ (cs w).length ≤ 13) ?_ fun wh hwh => ?_
    · refine Ok.bind (letter_ok m) fun a ha => ?_
      refine Ok.bind (P := fun z => (cs z).length ≤ 12 ∧ 32 ∉ cs z) ?_ fun z hz => ?_
      · have h1 : 0 ≤ (n / 4) % 7 := Int.emod_nonneg _ (by omega)
        have h2 : (n / 4) % 7 < 7 := Int.emod_lt_of_pos _ (by omega)
        refine Ok.bind (P := fun ys => ys.length ≤ 12 ∧ ∀ y ∈ ys, (cs y).length = 1 ∧ 32 ∉ cs y) ?_ fun ys hys => ?_
        · refine Ok.bind (Ok.range (by omega) (by omega) (by omega) (by omega)) fun ks hks => ?_
          subst hks
          refine (Ok.mapM (Q := fun y => (cs y).length = 1 ∧ 32 ∉ cs y) fun e he => ?_).imp fun ys h => ⟨?_, h.2⟩
          · have hr := rangeL_mem he
            refine Ok.bind (P := fun c => (cs c.str).length = 1 ∧ 32 ∉ cs c.str) ?_ fun r hr2 => ⟨_, rfl, hr2⟩
            refine Ok.bind (P := fun r => 0 ≤ r ∧ r < 36) ?_ fun r hr2 => letter_at hr2.1 hr2.2
            refine Ok.bind (P := fun _ => True) ?_ fun r _ => ⟨_, rfl, Int.emod_nonneg _ (by omega), Int.emod_lt_of_pos _ (by omega)⟩
            refine Ok.bind (P := fun _ => True) ?_ fun r _ => ⟨_, rfl, trivial⟩
            refine Ok.bind (P := fun _ => True) ?_ fun r _ => ⟨_, rfl, trivial⟩
            exact Ok.bind (Ok.mulI (by omega)) fun r _ => ⟨_, rfl, trivial⟩
          · rw [h.1, rangeL_len]; omega
        · obtain ⟨a1, a2, a3⟩ := sum_ones hys.2
          refine (Ok.joinE (by rw [a1]; omega)).imp fun z hz => ?_
          rw [hz]
          exact ⟨by rw [a2]; omega, a3⟩
      · refine (Ok.catS (by rw [← cs_length, ← cs_length]; omega)).imp fun w hw => ?_
        subst hw
        rw [cs_append, List.length_append]
        exact ⟨good_cat ⟨by omega, by omega, ha.2⟩ (by omega) hz.2, by omega⟩
    · have hl : wh.length ≤ 1000000 := by rw [← cs_length]; omega
      refine Ok.ite (fun _ => ?_) fun _ => Ok.ite (fun _ => ?_) fun _ => ⟨_, rfl, hwh.1⟩
      · refine Ok.bind (P := Good) ?_ fun w hw => ⟨_, rfl, hw⟩
        refine Ok.bind (P := fun w => Good w ∧ (cs w).length ≤ 7) ?_ fun w hw => ?_
        · refine Ok.bind (Ok.needD (sizeLine_big hl) (P := fun w => cs w = (cs wh).take 3) ⟨_, rfl, cs_cutTo wh 3⟩) fun a ha => ?_
          refine Ok.bind (Ok.idxM (Int.emod_nonneg _ (by omega)) (by show _ < ((5 : Nat) : Int); exact Int.emod_lt_of_pos _ (by omega))) fun b hb => ?_
          have hb := mid_all b hb
          have la : (cs a).length ≤ 3 := by rw [ha, List.length_take]; omega
          refine (Ok.catS (by rw [← cs_length, ← cs_length]; omega)).imp fun w hw => ?_
          subst hw
          exact ⟨good_cat (good_take hwh.1 3 (by omega) ha) (by omega) hb.2, by rw [cs_append, List.length_append]; omega⟩
        · refine Ok.bind (Ok.needD (sizeLine_big hl) (P := fun w => cs w = (cs wh).take 2) ⟨_, rfl, cs_cutTo wh 2⟩) fun a ha => ?_
          have la : (cs a).length ≤ 2 := by rw [ha, List.length_take]; omega
          refine (Ok.catS (by rw [← cs_length, ← cs_length]; omega)).imp fun w' hw' => ?_
          subst hw'
          exact good_cat hw.1 (by omega) (fun z => hwh.1.2.2 (List.mem_of_mem_take (by rw [← ha]; exact z)))
      · refine Ok.bind (P := Good) ?_ fun w hw => ⟨_, rfl, hw⟩
        refine Ok.bind (P := fun w => Good w ∧ (cs w).length ≤ 3) ?_ fun w hw => ?_
        · refine Ok.bind (Ok.needD (sizeLine_big hl) (P := fun w => cs w = (cs wh).take 2) ⟨_, rfl, cs_cutTo wh 2⟩) fun a ha => ?_
          have la : (cs a).length ≤ 2 := by rw [ha, List.length_take]; omega
          have lu : (cs ("_" : Str)).length = 1 := by rw [under_ok]; rfl
          refine (Ok.catS (by rw [← cs_length, ← cs_length]; omega)).imp fun w hw => ?_
          subst hw
          exact ⟨good_cat (good_take hwh.1 2 (by omega) ha) (by omega) (by rw [under_ok]; decide), by rw [cs_append, List.length_append]; omega⟩
        · refine Ok.bind (Ok.needD (sizeLine_big hl) (P := fun w => cs w = (cs wh).drop 2) ⟨_, rfl, cs_cutFrom wh 2⟩) fun a ha => ?_
          have la : (cs a).length ≤ 13 := by rw [ha, List.length_drop]; omega
          refine (Ok.catS (by rw [← cs_length, ← cs_length]; omega)).imp fun w' hw' => ?_
          subst hw'
          exact good_cat hw.1 (by omega) (fun z => hwh.1.2.2 (List.mem_of_mem_drop (by rw [← ha]; exact z)))
end Cl

/-! the plain law of k59, third part: names and rows -/
namespace Cl
open PySem PySem.Spec L2 Pf Tx
open PyProof.Rows hiding St
open M (need some!)
def letters : List Nat := [97, 98, 99, 100, 101, 102, 103, 104, 105, 106, 107, 108, 109, 110, 111, 112, 113, 114, 115, 116, 117, 118, 119, 120, 121, 122]
def digits : List Nat := [48, 49, 50, 51, 52, 53, 54, 55, 56, 57]
def alnum : List Nat := letters ++ digits
theorem lit36 : cs ("abcdefghijklmnopqrstuvwxyz0123456789" : Str) = alnum := by rw [letters_cs]; rfl
theorem lit26 : cs ("abcdefghijklmnopqrstuvwxyz" : Str) = letters := by decide +kernel
theorem lit10 : cs ("0123456789" : Str) = digits := by decide +kernel
theorem disj : ∀ a ∈ letters, a ∉ digits := by decide
/-- a name, by its signs -/
def nameB (l : List Nat) : Bool := match l with
  | [] => false
  | a :: r => decide (r.length + 1 ≤ 12) && (decide (a ∈ letters) && (a :: r).all fun x => decide (x ∈ alnum))
theorem nameB_cons (a : Nat) (l : List Nat) : nameB (a :: l) = (decide (l.length + 1 ≤ 12) && (decide (a ∈ letters) && (a :: l).all fun x => decide (x ∈ alnum))) := rfl
theorem signs_all (x : Str) (p : Ch → Bool) : (Pf.signs x).map p = (cs x).map fun c => p ⟨c⟩ := by
  unfold Pf.signs
  rw [List.map_map]; rfl
theorem all_map (l : List Nat) (p : Nat → Bool) : (l.map p).all id = l.all p := by
  rw [List.all_map]; rfl
theorem all_bind {x : Str} (h : x.length ≤ 1000000) (p : Ch → Bool) : Ok ((((need (decide (x.length ≤ sizeLine)) (.ok (Pf.signs x))).bind fun r => .ok (r.map p)).bind fun r => .ok (r.all id)).bind fun r => .ok r) fun b => b = (cs x).all fun c => p ⟨c⟩ := by
  refine Ok.bind (P := fun b => b = (cs x).all fun c => p ⟨c⟩) ?_ fun b hb => ⟨_, rfl, hb⟩
  refine Ok.bind (P := fun l => l = (cs x).map fun c => p ⟨c⟩) ?_ fun l hl => ⟨_, rfl, by rw [hl, all_map]⟩
  exact Ok.bind (Ok.needD (sizeLine_big h) ⟨_, rfl, rfl⟩) fun l hl => ⟨_, rfl, by subst hl; exact signs_all x p⟩
theorem name_ok {x : Str} (h : x.length ≤ 1000000) : m_is_name x = .ok (nameB (cs x)) := by
  refine Ok.is ?_
  unfold m_is_name
  have hl : ((cs x).length : Int) = (x.length : Int) := by rw [cs_length]
  cases hc : cs x with
  | nil =>
    have h0 : x.length = 0 := by rw [← cs_length, hc]; rfl
    refine Ok.bind (P := fun r => r = true) ?_ fun r hr => by subst hr; exact ⟨_, rfl, rfl⟩
    refine Ok.bind (P := fun r => r = true) ?_ fun r hr => by subst hr; exact ⟨_, rfl, rfl⟩
    refine Ok.bind (P := fun r => r = false) ?_ fun r hr => by subst hr; exact ⟨_, rfl, rfl⟩
    exact Ok.bind (Ok.needD (sizeLine_big h) ⟨_, rfl, rfl⟩) fun r hr => by subst hr; rw [h0]; exact ⟨_, rfl, rfl⟩
  | cons a l =>
    have h0 : x.length = l.length + 1 := by rw [← cs_length, hc]; rfl
    by_cases h12 : l.length + 1 ≤ 12
    · refine Ok.bind (P := fun r => r = decide (a ∈ digits)) ?_ fun r hr => ?_
      · refine Ok.bind (P := fun r => r = false) ?_ fun r hr => ?_
        · refine Ok.bind (P := fun r => r = true) ?_ fun r hr => by subst hr; exact ⟨_, rfl, rfl⟩
          refine Ok.bind (Ok.needD (sizeLine_big h) ⟨_, rfl, rfl⟩) fun r hr => by
            subst hr; rw [h0]
            exact ⟨_, rfl, by rw [decide_eq_true (by omega), decide_eq_true (by omega)]; rfl⟩
        · subst hr
          refine Ok.bind (Ok.needD (sizeLine_big h) (Ok.idxS (z := x) (i := 0) (by omega) (by rw [hc]; simp))) fun c hcc => ⟨_, rfl, ?_⟩
          rw [hc] at hcc
          cases hcc
          show decide (c.code ∈ cs ("0123456789" : Str)) = _
          rw [lit10]
      · subst hr
        refine Ok.ite (fun hd => ⟨_, rfl, ?_⟩) fun hd => ?_
        · have hd := of_decide_eq_true hd
          show false = nameB (a :: l)
          rw [nameB_cons, decide_eq_false (fun z : a ∈ letters => disj a z hd), Bool.false_and, Bool.and_false]
        · have hd : a ∉ digits := fun z => hd (decide_eq_true z)
          refine (all_bind h _).imp fun b hb => ?_
          subst hb
          rw [hc, nameB_cons, decide_eq_true h12, Bool.true_and]
          have e : (fun c : Nat => decide ((Ch.mk c).code ∈ ("abcdefghijklmnopqrstuvwxyz0123456789" : Str).cps.toList)) = fun c => decide (c ∈ alnum) := by
            funext c
            show decide (c ∈ cs ("abcdefghijklmnopqrstuvwxyz0123456789" : Str)) = _
            rw [lit36]
          rw [e]
          by_cases ha : a ∈ letters
          · rw [decide_eq_true ha, Bool.true_and]
          · rw [decide_eq_false ha, Bool.false_and, List.all_cons, decide_eq_false (fun z : a ∈ alnum => (List.mem_append.mp z).elim ha hd), Bool.false_and]
    · refine Ok.bind (P := fun r => r = true) ?_ fun r hr => ?_
      · refine Ok.bind (P := fun r => r = true) ?_ fun r hr => by subst hr; exact ⟨_, rfl, rfl⟩
        refine Ok.bind (P := fun r => r = false) ?_ fun r hr => by subst hr; exact ⟨_, rfl, rfl⟩
        refine Ok.bind (Ok.needD (sizeLine_big h) ⟨_, rfl, rfl⟩) fun r hr => by
          subst hr; rw [h0]
          exact ⟨_, rfl, by rw [decide_eq_false (p := ((l.length + 1 : Nat) : Int) ≤ 12) (by omega), Bool.and_false]⟩
      · subst hr
        refine ⟨_, rfl, ?_⟩
        show false = nameB (a :: l)
        rw [nameB_cons, decide_eq_false h12, Bool.false_and]
end Cl

/-! the plain law of k59, fourth part: rows -/
namespace Cl
open PySem PySem.Spec L2 Pf Tx
open PyProof.Rows hiding St
open M (need some!)
theorem qname_ok {x : Str} (h : x.length ≤ 1000000) : m_q_is_name x = .ok (nameB (cs x)) := by
  refine Ok.is ?_
  unfold m_q_is_name
  cases hc : cs x with
  | nil =>
    have h0 : x.length = 0 := by rw [← cs_length, hc]; rfl
    refine Ok.bind (P := fun r => r = true) ?_ fun r hr => by subst hr; exact ⟨_, rfl, rfl⟩
    refine Ok.bind (P := fun r => r = true) ?_ fun r hr => by subst hr; exact ⟨_, rfl, rfl⟩
    exact Ok.bind (Ok.needD (sizeLine_big h) ⟨_, rfl, rfl⟩) fun r hr => by subst hr; rw [h0]; exact ⟨_, rfl, rfl⟩
  | cons a l =>
    have h0 : x.length = l.length + 1 := by rw [← cs_length, hc]; rfl
    refine Ok.bind (P := fun r => r = (!decide (l.length + 1 ≤ 12) || !decide (a ∈ letters))) ?_ fun r hr => ?_
    · refine Ok.bind (P := fun r => r = false) ?_ fun r hr => ?_
      · refine Ok.bind (Ok.needD (sizeLine_big h) ⟨_, rfl, rfl⟩) fun r hr => by
          subst hr; rw [h0]
          exact ⟨_, rfl, decide_eq_false (by omega)⟩
      · subst hr
        refine Ok.bind (P := fun r => r = !decide (l.length + 1 ≤ 12)) ?_ fun r hr => ?_
        · refine Ok.bind (Ok.needD (sizeLine_big h) ⟨_, rfl, rfl⟩) fun r hr => by
            subst hr; rw [h0]
            refine ⟨_, rfl, ?_⟩
            by_cases q : l.length + 1 ≤ 12
            · rw [decide_eq_true q, decide_eq_false (by omega)]; rfl
            · rw [decide_eq_false q, decide_eq_true (by omega)]; rfl
        · subst hr
          refine Ok.ite (fun q => ⟨_, rfl, by rw [q]; rfl⟩) fun q => ?_
          have q : (!decide (l.length + 1 ≤ 12)) = false := by simpa using q
          refine Ok.bind (Ok.needD (sizeLine_big h) (Ok.idxS (z := x) (i := 0) (by omega) (by rw [hc]; simp))) fun c hcc => ⟨_, rfl, ?_⟩
          rw [hc] at hcc
          cases hcc
          show (!decide (c.code ∈ cs ("abcdefghijklmnopqrstuvwxyz" : Str))) = _
          rw [lit26, q, Bool.false_or]
    · subst hr
      refine Ok.ite (fun hd => ⟨_, rfl, ?_⟩) fun hd => ?_
      · show false = nameB (a :: l)
        rw [nameB_cons]
        rcases Bool.or_eq_true_iff.mp hd with q | q
        · rw [Bool.not_eq_true'] at q; rw [q, Bool.false_and]
        · rw [Bool.not_eq_true'] at q; rw [q, Bool.false_and, Bool.and_false]
      · have hd : (!decide (l.length + 1 ≤ 12) || !decide (a ∈ letters)) = false := by simpa using hd
        rw [Bool.or_eq_false_iff, Bool.not_eq_false', Bool.not_eq_false'] at hd
        refine (all_bind h _).imp fun b hb => ?_
        subst hb
        rw [hc, nameB_cons, hd.1, hd.2, Bool.true_and, Bool.true_and]
        have e : (fun c : Nat => decide ((Ch.mk c).code ∈ ("abcdefghijklmnopqrstuvwxyz0123456789" : Str).cps.toList)) = fun c => decide (c ∈ alnum) := by
          funext c
          show decide (c ∈ cs ("abcdefghijklmnopqrstuvwxyz0123456789" : Str)) = _
          rw [lit36]
        rw [e]
/-- the pair that a word writes -/
def pairOf (l : List Nat) : Option (Str × Str) := match splitL 58 l with
  | [p, q] => if (nameB p && nameB q) = true then some (mkS p, mkS q) else none
  | _ => none
abbrev Rows := List (Str × Str)
def stepOf (s : Rows) (e : Str) : Fl Rows (Option Rows) := match pairOf (cs e) with
  | some p => .nx (s ++ [p])
  | none => .out none
theorem len_mk (l : List Nat) : (mkS l).length = l.length := by rw [← cs_length, cs_mk]
theorem splitL_len (c : Nat) (l : List Nat) : ∀ p ∈ splitL c l, p.length ≤ l.length := by
  induction l with
  | nil => intro p hp; rw [List.mem_singleton.mp hp]; exact Nat.le_refl _
  | cons a l ih =>
    intro p hp
    unfold splitL at hp
    split at hp
    · rcases List.mem_cons.mp hp with e | hp
      · rw [e]; exact Nat.zero_le _
      · have := ih p hp; rw [List.length_cons]; omega
    · cases e : splitL c l with
      | nil => exact absurd e (splitL_ne c l)
      | cons q qs =>
        rw [e] at hp ih
        rcases List.mem_cons.mp hp with e' | hp
        · have := ih q List.mem_cons_self; rw [e', List.length_cons, List.length_cons]; omega
        · have := ih p (List.mem_cons_of_mem _ hp); rw [List.length_cons]; omega
theorem rowof_step {s : Rows} {e : Str} (he : e.length ≤ 1000) (hs : s.length ≤ 1000) : m_row_of_b1 s e = .ok (stepOf s e) := by
  refine Ok.is ?_
  unfold m_row_of_b1
  rw [lit_colon]
  refine Ok.bind (Ok.splitOne (by omega)) fun ps hps => ?_
  have hlen : ∀ p ∈ splitL 58 (cs e), p.length ≤ 1000 := fun p hp => by have := splitL_len 58 (cs e) p hp; rw [cs_length] at this; omega
  have names : mapM (fun e_1 => m_is_name e_1) ps = .ok ((splitL 58 (cs e)).map nameB) := by
    have h1 : mapM (fun e_1 => m_is_name e_1) ps = .ok (ps.map fun x => nameB (cs x)) := mapM_eq fun x hx => by
      refine name_ok ?_
      rw [hps] at hx
      obtain ⟨p, hp, rfl⟩ := List.mem_map.mp hx
      rw [len_mk]; have := hlen p hp; omega
    have h2 : (ps.map fun x => nameB (cs x)) = (splitL 58 (cs e)).map nameB := by
      rw [hps, List.map_map]
      exact List.map_congr_left fun p _ => by show nameB (cs (mkS p)) = _; rw [cs_mk]
    rw [h1, h2]
  have hl : ps.length = (splitL 58 (cs e)).length := by rw [hps, List.length_map]
  by_cases h2 : (splitL 58 (cs e)).length = 2
  · match hq : splitL 58 (cs e), h2 with
    | [p, q], _ =>
      rw [hq] at hps names hl
      have hst : stepOf s e = if (nameB p && nameB q) = true then .nx (s ++ [(mkS p, mkS q)]) else .out none := by
        unfold stepOf pairOf
        rw [hq]
        by_cases z : (nameB p && nameB q) = true
        · simp only [z, if_true]
        · simp only [z, if_false, Bool.false_eq_true]
      refine Ok.bind (P := fun r => r = !(nameB p && nameB q)) ?_ fun r hr => ?_
      · refine Ok.ite (fun z => ?_) fun _ => ?_
        · rw [hl] at z; exact absurd z (by rw [show ([p, q] : List (List Nat)).length = 2 from rfl]; decide)
        · rw [names]
          exact ⟨_, rfl, by show (!(nameB p && (nameB q && true))) = _; rw [Bool.and_true]⟩
      · subst hr
        refine Ok.ite (fun z => ⟨_, rfl, ?_⟩) fun z => ?_
        · rw [hst, if_neg (fun w => by rw [w] at z; cases z)]
        · rw [hst, if_pos (by cases w : (nameB p && nameB q) with | true => rfl | false => rw [w] at z; exact absurd rfl z), hps]
          refine Ok.bind (P := fun y => y = (mkS p, mkS q)) ⟨_, rfl, rfl⟩ fun y hy => ?_
          subst hy
          exact Ok.needD (by unfold sizeLine; omega) ⟨_, rfl, rfl⟩
  · have hst : stepOf s e = .out none := by
      unfold stepOf pairOf
      match hq : splitL 58 (cs e) with
      | [] => rfl
      | [_] => rfl
      | [_, _] => rw [hq] at h2; exact absurd rfl h2
      | _ :: _ :: _ :: _ => rfl
    rw [hst]
    refine Ok.bind (P := fun r => r = true) ?_ fun r hr => by subst hr; exact ⟨_, rfl, rfl⟩
    refine Ok.ite (fun _ => ⟨_, rfl, rfl⟩) fun z => ?_
    exact absurd (by rw [hl]; rw [decide_eq_false (by omega)]; rfl) z
end Cl

/-! the plain law of k59, fifth part: the rows due -/
namespace Cl
open PySem PySem.Spec L2 Pf Tx
open PyProof.Rows hiding St
open M (need some!)
theorem no58 {l : List Nat} (h : nameB l = true) : 58 ∉ l := by
  cases l with
  | nil => exact fun z => nomatch z
  | cons a r =>
    rw [nameB_cons, Bool.and_eq_true, Bool.and_eq_true, List.all_eq_true] at h
    intro z
    have := of_decide_eq_true (h.2.2 58 z)
    revert this
    decide
theorem due_step {s : Rows} {e : Str} (he : e.length ≤ 1000) (hs : s.length ≤ 1000) : m_q_row_due_b1 s e = .ok (stepOf s e) := by
  refine Ok.is ?_
  unfold m_q_row_due_b1
  rw [lit_colon]
  have big : e.length ≤ 1000000 := by omega
  rcases find_one e 58 with ⟨h, hf⟩ | ⟨a, b, h, ha, hf⟩
  · rw [hf]
    have hst : stepOf s e = .out none := by
      unfold stepOf pairOf
      rw [splitL_none 58 h]
    rw [hst]
    refine Ok.bind (P := fun r => r = true) ⟨_, rfl, rfl⟩ fun r hr => by subst hr; exact ⟨_, rfl, rfl⟩
  · rw [hf]
    have la : a.length ≤ 1000 := by have := congrArg List.length h; rw [cs_length, List.length_append] at this; omega
    have lb : b.length ≤ 1000 := by have := congrArg List.length h; rw [cs_length, List.length_append, List.length_cons] at this; omega
    have c1 : cutS e none (some (a.length : Int)) = mkS a := str_ext (by rw [cs_cutTo, h, cs_mk]; simp)
    have c2 : cutS e (some ((a.length : Int) + 1)) none = mkS b := str_ext (by
      rw [show (a.length : Int) + 1 = ((a.length + 1 : Nat) : Int) by omega, cs_cutFrom, h, cs_mk]
      rw [show a.length + 1 = (a ++ [58]).length by simp, show a ++ 58 :: b = (a ++ [58]) ++ b by simp, List.drop_left])
    have hst : stepOf s e = if (nameB a && nameB b) = true then .nx (s ++ [(mkS a, mkS b)]) else .out none := by
      unfold stepOf pairOf
      rw [h, splitL_app 58 ha]
      by_cases hb : 58 ∈ b
      · have nb : nameB b = false := by
          cases q : nameB b with
          | false => rfl
          | true => exact absurd hb (no58 q)
        rw [nb, Bool.and_false, if_neg (by decide)]
        match hq : splitL 58 b with
        | [] => rfl
        | [p] =>
          have := jn_splitL 58 b
          rw [hq] at this
          have e2 : p = b := this
          exact absurd (splitL_free 58 b p (by rw [hq]; exact List.mem_cons_self)) (by rw [e2]; exact fun z => z hb)
        | _ :: _ :: _ => rfl
      · rw [splitL_none 58 hb]
        by_cases z : (nameB a && nameB b) = true
        · simp only [z, if_true]
        · simp only [z, if_false, Bool.false_eq_true]
    dsimp only
    rw [c1, c2, hst]
    refine Ok.bind (P := fun r => r = !(nameB a && nameB b)) ?_ fun r hr => ?_
    · refine Ok.ite (fun z => absurd (of_decide_eq_true z) (by omega)) fun _ => ?_
      refine Ok.bind (P := fun r => r = !nameB a) ?_ fun r hr => ?_
      · refine Ok.bind (P := fun r => r = nameB a) ?_ fun r hr => ⟨_, rfl, by rw [hr]⟩
        refine Ok.bind (Ok.needD (sizeLine_big big) ⟨_, rfl, rfl⟩) fun r hr => ?_
        subst hr
        rw [qname_ok (by rw [len_mk]; omega), cs_mk]
        exact ⟨_, rfl, rfl⟩
      · subst hr
        refine Ok.ite (fun z => ⟨_, rfl, ?_⟩) fun z => ?_
        · rw [Bool.not_eq_true'] at z; rw [z]; rfl
        · have z : nameB a = true := by cases q : nameB a with | true => rfl | false => rw [q] at z; exact absurd rfl z
          rw [z, Bool.true_and]
          refine Ok.bind (P := fun r => r = nameB b) ?_ fun r hr => ⟨_, rfl, by rw [hr]⟩
          refine Ok.bind (Ok.needD (sizeLine_big big) ⟨_, rfl, rfl⟩) fun r hr => ?_
          subst hr
          rw [qname_ok (by rw [len_mk]; omega), cs_mk]
          exact ⟨_, rfl, rfl⟩
    · subst hr
      refine Ok.ite (fun z => ⟨_, rfl, ?_⟩) fun z => ?_
      · rw [if_neg (fun w => by rw [w] at z; cases z)]
      · rw [if_pos (by cases w : (nameB a && nameB b) with | true => rfl | false => rw [w] at z; exact absurd rfl z)]
        refine Ok.bind (P := fun y => y = (mkS a, mkS b)) ?_ fun y hy => ?_
        · refine Ok.bind (Ok.needD (sizeLine_big big) ⟨_, rfl, rfl⟩) fun r hr => ?_
          refine Ok.bind (Ok.needD (sizeLine_big big) ⟨_, rfl, rfl⟩) fun r' hr' => ?_
          subst hr hr'
          exact ⟨_, rfl, rfl⟩
        · subst hy
          exact Ok.needD (by unfold sizeLine; omega) ⟨_, rfl, rfl⟩
def loopP : Rows → List Str → Jn Rows (Option Rows)
  | s, [] => .go s
  | s, x :: xs => match pairOf (cs x) with
    | some p => loopP (s ++ [p]) xs
    | none => .out none
def rowP (ws : List Str) : Option Rows := match loopP [] ws with
  | .go s => some s
  | .out o => o
theorem loop_ok {f : Rows → Str → M (Fl Rows (Option Rows))} (hf : ∀ s e, e.length ≤ 1000 → s.length ≤ 1000 → f s e = .ok (stepOf s e)) :
    ∀ {ws : List Str} {s : Rows}, (∀ w ∈ ws, w.length ≤ 1000) → s.length + ws.length ≤ 1000 → loopM f s ws = .ok (loopP s ws)
  | [], s, _, _ => rfl
  | w :: ws, s, hw, hl => by
    rw [List.length_cons] at hl
    unfold loopM loopP
    rw [hf s w (hw w List.mem_cons_self) (by omega)]
    unfold stepOf
    cases pairOf (cs w) with
    | none => rfl
    | some p =>
      show loopM f (s ++ [p]) ws = _
      exact loop_ok hf (fun x hx => hw x (List.mem_cons_of_mem _ hx)) (by rw [List.length_append]; simp; omega)
theorem jn_end (j : Jn Rows (Option Rows)) : (j.then fun s => (M.ok (some s) : M (Option Rows))) = .ok (match j with | .go s => some s | .out o => o) := by
  cases j <;> rfl
theorem rowof_ok {ws : List Str} (hw : ∀ w ∈ ws, w.length ≤ 1000) (hl : ws.length ≤ 1000) : m_row_of ws = .ok (rowP ws) := by
  unfold m_row_of
  show ((loopM m_row_of_b1 [] ws).bind _) = _
  rw [loop_ok (fun s e h1 h2 => rowof_step h1 h2) hw (by simpa using hl)]
  exact jn_end _
theorem rowdue_ok {ws : List Str} (hw : ∀ w ∈ ws, w.length ≤ 1000) (hl : ws.length ≤ 1000) : m_q_row_due ws = .ok (rowP ws) := by
  unfold m_q_row_due
  show ((loopM m_q_row_due_b1 [] ws).bind _) = _
  rw [loop_ok (fun s e h1 h2 => due_step h1 h2) hw (by simpa using hl)]
  exact jn_end _
end Cl

/-! the plain law of k59, sixth part: commands -/
namespace Cl
open PySem PySem.Spec L2 Pf Tx
open PyProof.Rows hiding St
open M (need some!)
def zeroes : List Str := ["undo", "redo", "answers", "books", "questions"]
def ones : List Str := ["book", "drop", "answer", "print"]
def nm (x : Str) : Bool := nameB (cs x)
def cmd (F : Str) (rest : List Str) : Bool :=
  if F = "read" then (match rest with
    | [] => false
    | a :: r => nm a && (rowP r).isSome)
  else if F ∈ zeroes then decide (rest.length = 0)
  else if F ∈ ones then decide (rest.length = 1) && rest.all nm
  else if F = "remove" then decide (rest.length = 1) && rest.all nm
  else if F = "set" then (match rest with
    | [a, b, c] => nm a && (nm b && decide (c ∈ (["yes", "no"] : List Str)))
    | _ => false)
  else if F = "ask" then (match rest with
    | [a, k, b, c] => decide (k = "alike") && rest.all nm
    | [a, k, b] => decide (k ∈ (["ever", "places"] : List Str)) && rest.all nm
    | _ => false)
  else false
theorem any_mem (t : List (Str × Int)) (F : Str) : (t.any fun q => decide (q.1 = F)) = decide (F ∈ t.map (·.1)) := by
  induction t with
  | nil => rfl
  | cons q t ih =>
    rw [List.any_cons, ih, List.map_cons]
    by_cases h : q.1 = F
    · subst h; simp
    · have h' : ¬ F = q.1 := fun e => h e.symm
      simp [h, h']
theorem forms_keys : t_FORMS.map (·.1) = (["book", "undo", "redo", "drop", "answer", "answers", "print", "read", "books", "questions"] : List Str) := rfl
theorem asked_keys : t_ASKED.map (·.1) = (["alike", "ever", "places"] : List Str) := rfl
theorem look0 : ∀ F ∈ zeroes, t_FORMS.lookup F = some 0 := by decide +kernel
theorem look1 : ∀ F ∈ ones, t_FORMS.lookup F = some 1 := by decide +kernel
theorem zero_forms : ∀ F ∈ zeroes, F ∈ t_FORMS.map (·.1) := by decide +kernel
theorem one_forms : ∀ F ∈ ones, F ∈ t_FORMS.map (·.1) := by decide +kernel
theorem forms_split0 : ∀ F ∈ (["book", "undo", "redo", "drop", "answer", "answers", "print", "read", "books", "questions"] : List Str), F = ("read" : Str) ∨ F ∈ zeroes ∨ F ∈ ones := by decide +kernel
theorem forms_split (F : Str) (h : F ∈ t_FORMS.map (·.1)) : F = ("read" : Str) ∨ F ∈ zeroes ∨ F ∈ ones := forms_split0 F (forms_keys ▸ h)
theorem sp_forms : ∀ F ∈ (["remove", "set", "ask"] : List Str), F ∉ t_FORMS.map (·.1) ∧ F ∉ zeroes ∧ F ∉ ones ∧ F ≠ "read" := by decide +kernel
theorem zo : ∀ F ∈ zeroes, F ≠ "read" ∧ F ∉ ones ∧ F ≠ "remove" ∧ F ≠ "set" ∧ F ≠ "ask" := by decide +kernel
theorem oz : ∀ F ∈ ones, F ≠ "read" ∧ F ∉ zeroes ∧ F ≠ "remove" ∧ F ≠ "set" ∧ F ≠ "ask" := by decide +kernel
theorem ask_ne : ("ask" : Str) ≠ "set" ∧ ("ask" : Str) ≠ "remove" ∧ ("set" : Str) ≠ "remove" ∧ ("set" : Str) ≠ "ask" ∧ ("remove" : Str) ≠ "set" ∧ ("remove" : Str) ≠ "ask" := by decide +kernel
theorem ask_look : t_ASKED.lookup ("alike" : Str) = some 2 ∧ t_ASKED.lookup ("ever" : Str) = some 1 ∧ t_ASKED.lookup ("places" : Str) = some 1 := by decide +kernel
theorem allnames {ws : List Str} (hw : ∀ w ∈ ws, w.length ≤ 1000) : mapM (fun e => m_is_name e) ws = .ok (ws.map nm) := mapM_eq fun x hx => name_ok (by have := hw x hx; omega)
theorem qallnames {ws : List Str} (hw : ∀ w ∈ ws, w.length ≤ 1000) : m_q_all_names ws = .ok (ws.all nm) := by
  unfold m_q_all_names
  rw [mapM_eq (g := nm) fun x hx => qname_ok (by have := hw x hx; omega)]
  show M.ok ((ws.map nm).all id) = _
  rw [List.all_map]; rfl
theorem all_id (ws : List Str) : (ws.map nm).all id = ws.all nm := by rw [List.all_map]; rfl
theorem idx_at {α : Type} {xs : List α} {i : Nat} {x : α} (h : xs[i]? = some x) : idx xs (i : Int) = .ok x := by
  unfold Pf.idx
  have hl := (List.getElem?_eq_some_iff.mp h).1
  rw [atI_ok (by omega) (by omega)]
  show M.ok _ = _
  rw [← (List.getElem?_eq_some_iff.mp h).2]
  rfl
theorem idx0 {α : Type} (x : α) (r : List α) : idx (x :: r) 0 = .ok x := idx_at (i := 0) rfl
theorem idx1 {α : Type} (x y : α) (r : List α) : idx (x :: y :: r) 1 = .ok y := idx_at (i := 1) rfl
theorem idx2 {α : Type} (x y z : α) (r : List α) : idx (x :: y :: z :: r) 2 = .ok z := idx_at (i := 2) rfl
theorem cut1 {α : Type} (x : α) (r : List α) : cutL (x :: r) (some 1) none = r := by
  rw [show (1 : Int) = ((1 : Nat) : Int) from rfl, cutL_some_none]; rfl
end Cl

/-! the plain law of k59, seventh part: commands are told rightly -/
namespace Cl
open PySem PySem.Spec L2 Pf Tx
open PyProof.Rows hiding St
open M (need some!)
section
variable {α : Type} {p : Prop} [Decidable p] {a b : α}
theorem dt (h : p) : (if decide p = true then a else b) = a := if_pos (decide_eq_true h)
theorem df (h : ¬p) : (if decide p = true then a else b) = b := if_neg (fun z => h (of_decide_eq_true z))
theorem bt {c : Bool} (h : c = true) : (if c = true then a else b) = a := if_pos h
theorem bf {c : Bool} (h : c = false) : (if c = true then a else b) = b := if_neg (by rw [h]; decide)
end
theorem nm_ok {x : Str} (h : x.length ≤ 1000) : m_is_name x = .ok (nm x) := name_ok (by omega)
theorem qnm_ok {x : Str} (h : x.length ≤ 1000) : m_q_is_name x = .ok (nm x) := qname_ok (by omega)
theorem bind_if {α : Type} (c : Bool) (m : M α) (x y : Bool) : (if c = true then (M.ok x : M Bool) else .ok y) = .ok (if c = true then x else y) := by cases c <;> rfl
theorem and_if (c d : Bool) : (if c = true then (M.ok d : M Bool) else .ok false) = .ok (c && d) := by cases c <;> rfl
theorem is_command_ok {F : Str} {rest : List Str} (hw : ∀ w ∈ rest, w.length ≤ 1000) (hl : rest.length ≤ 1000) : m_is_command (F :: rest) = .ok (cmd F rest) := by
  unfold m_is_command
  rw [idx0, M.bindK, cut1]
  dsimp only
  by_cases h1 : F = "read"
  · rw [dt h1]
    unfold cmd
    rw [if_pos h1, M.bindP]
    cases rest with
    | nil => rw [df (by simp)]
    | cons a r =>
      rw [dt (by simp), idx0, M.bindK, nm_ok (hw a List.mem_cons_self), M.bindK, cut1, rowof_ok (fun w h => hw w (List.mem_cons_of_mem _ h)) (by rw [List.length_cons] at hl; omega), M.bindK]
      exact and_if _ _
  rw [df h1, any_mem]
  by_cases h2 : F ∈ t_FORMS.map (·.1)
  · rw [dt h2]
    rcases forms_split F h2 with z | z | z
    · exact absurd z h1
    · obtain ⟨q1, q2, _⟩ := zo F z
      rw [look0 F z]
      unfold cmd
      rw [if_neg h1, if_pos z]
      show ((M.bind (if decide ((rest.length : Int) = 0) = true then _ else _) _)) = _
      by_cases hz : rest.length = 0
      · rw [dt (by omega), allnames hw]
        rw [List.eq_nil_of_length_eq_zero hz]
        rfl
      · rw [df (by omega), decide_eq_false hz]; rfl
    · obtain ⟨q1, q2, _⟩ := oz F z
      rw [look1 F z]
      unfold cmd
      rw [if_neg h1, if_neg q2, if_pos z]
      show ((M.bind (if decide ((rest.length : Int) = 1) = true then _ else _) _)) = _
      by_cases hz : rest.length = 1
      · rw [dt (by omega), allnames hw, decide_eq_true hz, Bool.true_and, M.bindK, M.bindK, all_id]
      · rw [df (by omega), decide_eq_false hz]; rfl
  rw [df h2]
  have nz : F ∉ zeroes := fun z => h2 (zero_forms F z)
  have no : F ∉ ones := fun z => h2 (one_forms F z)
  unfold cmd
  rw [if_neg h1, if_neg nz, if_neg no]
  by_cases h3 : F = "ask"
  · subst h3
    obtain ⟨e1, e2, _⟩ := ask_ne
    rw [dt rfl, if_neg e2, if_neg e1, if_pos rfl]
    match rest, hw, hl with
    | [], _, _ => rfl
    | [_], _, _ => rfl
    | a :: k :: r, hw, hl =>
      rw [df (by simp; omega), idx1, M.bindK, M.bindK, M.bindK, any_mem, asked_keys]
      by_cases hk : k ∈ (["alike", "ever", "places"] : List Str)
      · rw [decide_eq_true hk]
        rw [bf (by rfl), allnames hw]
        obtain ⟨l1, l2, l3⟩ := ask_look
        by_cases k1 : k = "alike"
        · subst k1
          rw [l1]
          show ((M.bind (if decide (((a :: "alike" :: r).length : Int) = 2 + 2) = true then _ else _) _)) = _
          match r with
          | [] => rfl
          | [_] => rw [df (by simp)]; show _ = M.ok (decide _ && _); rw [decide_eq_false (by decide +kernel)]; rfl
          | [b, c] => rw [dt (by simp)]; show _ = M.ok (decide _ && _); rw [decide_eq_true rfl, Bool.true_and, M.bindK, M.bindK, all_id]
          | _ :: _ :: _ :: _ => rw [df (by simp; omega)]; rfl
        · have k2 : k ∈ (["ever", "places"] : List Str) := by
            rcases List.mem_cons.mp hk with z | z
            · exact absurd z k1
            · exact z
          have lk : t_ASKED.lookup k = some 1 := by
            rcases List.mem_cons.mp k2 with z | z
            · rw [z]; exact l2
            · rw [List.mem_singleton.mp z]; exact l3
          rw [lk]
          show ((M.bind (if decide (((a :: k :: r).length : Int) = 2 + 1) = true then _ else _) _)) = _
          match r with
          | [] => rfl
          | [_] => rw [dt (by simp)]; show _ = M.ok (decide _ && _); rw [decide_eq_true k2, Bool.true_and, M.bindK, M.bindK, all_id]
          | [b, c] => rw [df (by simp)]; show _ = M.ok (decide _ && _); rw [decide_eq_false k1]; rfl
          | _ :: _ :: _ :: _ => rw [df (by simp; omega)]; rfl
      · rw [decide_eq_false hk]
        rw [bt (by rfl)]
        have k1 : k ≠ "alike" := fun z => hk (by rw [z]; exact List.mem_cons_self)
        have k2 : k ∉ (["ever", "places"] : List Str) := fun z => hk (List.mem_cons_of_mem _ z)
        match r with
        | [] => rfl
        | [_] => show _ = M.ok (decide _ && _); rw [decide_eq_false k2]; rfl
        | [b, c] => show _ = M.ok (decide _ && _); rw [decide_eq_false k1]; rfl
        | _ :: _ :: _ :: _ => rfl
  rw [df h3]
  by_cases h4 : F = "set"
  · subst h4
    obtain ⟨_, _, e1, e2, _⟩ := ask_ne
    rw [dt rfl, if_neg e1, if_pos rfl, M.bindP]
    match rest, hw, hl with
    | [], _, _ => rfl
    | [_], _, _ => rfl
    | [_, _], _, _ => rfl
    | [a, b, c], hw, _ =>
      rw [dt (by simp), idx0, idx1, idx2, M.bindK, M.bindK, M.bindK, nm_ok (hw a (by simp)), nm_ok (hw b (by simp)), M.bindK, M.bindK, and_if, and_if]
      rfl
    | _ :: _ :: _ :: _ :: _, _, _ => rw [df (by simp; omega)]
  rw [df h4, if_neg h4, if_neg h3, M.bindP]
  by_cases h5 : F = "remove"
  · rw [dt h5, if_pos h5]
    match rest, hw with
    | [], _ => rfl
    | [a], hw =>
      rw [dt (by simp), idx0, M.bindK, nm_ok (hw a (by simp))]
      show _ = M.ok (true && (nm a && true))
      rw [Bool.true_and, Bool.and_true]
    | _ :: _ :: _, _ => rw [df (by simp; omega)]; show _ = M.ok (decide _ && _); rw [decide_eq_false (by simp)]; rfl
  · rw [df h5, if_neg h5]
end Cl

/-! the plain law of k59, eighth part: the law's own command test -/
namespace Cl
open PySem PySem.Spec L2 Pf Tx
open PyProof.Rows hiding St
open M (need some!)
theorem memB_iff {α : Type} [DecidableEq α] {x : α} {l : List α} : memB x l = true ↔ x ∈ l := by unfold memB; exact decide_eq_true_iff
theorem mt {α β : Type} [DecidableEq α] {x : α} {l : List α} {a b : β} (h : x ∈ l) : (if memB x l = true then a else b) = a := if_pos (memB_iff.mpr h)
theorem mf {α β : Type} [DecidableEq α] {x : α} {l : List α} {a b : β} (h : x ∉ l) : (if memB x l = true then a else b) = b := if_neg fun z => h (memB_iff.mp z)
theorem onesR : (["book", "drop", "answer", "print", "remove"] : List Str) = ones ++ (["remove"] : List Str) := rfl
theorem cut2 {α : Type} (xs : List α) : cutL xs none (some 2) = xs.take 2 := by
  rw [show (2 : Int) = ((2 : Nat) : Int) from rfl, cutL_none_some]
theorem q_command_ok {F : Str} {rest : List Str} (hw : ∀ w ∈ rest, w.length ≤ 1000) (hl : rest.length ≤ 1000) : m_q_command (F :: rest) = .ok (cmd F rest) := by
  unfold m_q_command
  rw [idx0, M.bindK, cut1]
  dsimp only
  by_cases h1 : F = "read"
  · rw [dt h1]
    unfold cmd
    rw [if_pos h1, M.bindP]
    cases rest with
    | nil => rw [df (by simp)]
    | cons a r =>
      rw [dt (by simp), idx0, M.bindK, qnm_ok (hw a List.mem_cons_self), M.bindK, cut1, rowdue_ok (fun w h => hw w (List.mem_cons_of_mem _ h)) (by rw [List.length_cons] at hl; omega), M.bindK]
      exact and_if _ _
  rw [df h1]
  unfold cmd
  rw [if_neg h1]
  by_cases hz : F ∈ zeroes
  · rw [mt (show F ∈ (["undo", "redo", "answers", "books", "questions"] : List Str) from hz), if_pos hz]
    congr 1
    by_cases q : rest.length = 0
    · rw [decide_eq_true q, decide_eq_true (by omega)]
    · rw [decide_eq_false q, decide_eq_false (by omega)]
  rw [mf (show ¬ F ∈ (["undo", "redo", "answers", "books", "questions"] : List Str) from hz), if_neg hz]
  have oneC : (((if decide ((rest.length : Int) = 1) = true then (idx rest 0).bind fun r => m_q_is_name r else .ok false)).bind fun r => M.ok r) = M.ok (decide (rest.length = 1) && rest.all nm) := by
    rw [M.bindP]
    match rest, hw with
    | [], _ => rfl
    | [a], hw =>
      rw [dt (by simp), idx0, M.bindK, qnm_ok (hw a (by simp))]
      show _ = M.ok (true && (nm a && true))
      rw [Bool.true_and, Bool.and_true]
    | _ :: _ :: _, _ => rw [df (by simp; omega)]; show _ = M.ok (decide _ && _); rw [decide_eq_false (by simp)]; rfl
  by_cases ho : F ∈ ones
  · rw [mt (by rw [onesR]; exact List.mem_append_left _ ho), if_pos ho, oneC]
  by_cases hr : F = "remove"
  · rw [mt (by rw [onesR]; exact List.mem_append_right _ (List.mem_singleton.mpr hr)), if_neg ho, if_pos hr, oneC]
  rw [mf (by rw [onesR]; exact fun z => (List.mem_append.mp z).elim ho fun z => hr (List.mem_singleton.mp z)), if_neg ho, if_neg hr]
  by_cases h4 : F = "set"
  · rw [dt h4, if_pos h4, M.bindP]
    match rest, hw, hl with
    | [], _, _ => rfl
    | [_], _, _ => rfl
    | [_, _], _, _ => rfl
    | [a, b, c], hw, _ =>
      rw [dt (by simp), cut2, qallnames (fun w h => hw w (List.mem_of_mem_take h)), M.bindK, idx2, M.bindK, and_if]
      show M.ok ((nm a && (nm b && true)) && memB c (["yes", "no"] : List Str)) = M.ok (nm a && (nm b && decide (c ∈ (["yes", "no"] : List Str))))
      rw [Bool.and_true, Bool.and_assoc, show memB c (["yes", "no"] : List Str) = decide (c ∈ (["yes", "no"] : List Str)) by rw [Bool.eq_iff_iff, memB_iff, decide_eq_true_eq]]
    | _ :: _ :: _ :: _ :: _, _, _ => rw [df (by simp; omega)]
  rw [df h4, if_neg h4]
  by_cases h3 : F = "ask"
  · rw [decide_eq_true h3, if_pos h3]
    show ((M.bind (if decide ((rest.length : Int) < 3) = true then _ else _) _)) = _
    match rest, hw, hl with
    | [], _, _ => rfl
    | [_], _, _ => rfl
    | [_, _], _, _ => rfl
    | a :: k :: b :: r, hw, hl =>
      rw [df (by simp; omega), qallnames hw, M.bindK, M.bindK]
      by_cases hn : ((a :: k :: b :: r).all nm) = true
      · rw [hn, bf (by rfl), idx1, M.bindK, M.bindK, M.bindK]
        match r with
        | [] =>
          show M.ok (memB _ _) = M.ok (decide (k ∈ (["ever", "places"] : List Str)) && true)
          rw [Bool.and_true]
          congr 1
          rw [Bool.eq_iff_iff, memB_iff, decide_eq_true_eq]
          simp
        | [c] =>
          show M.ok (memB _ _) = M.ok (decide (k = "alike") && true)
          rw [Bool.and_true]
          congr 1
          rw [Bool.eq_iff_iff, memB_iff, decide_eq_true_eq]
          simp
        | c :: d :: r =>
          show M.ok (memB _ _) = M.ok false
          congr 1
          rw [Bool.eq_false_iff]
          intro z
          have z := memB_iff.mp z
          simp at z
          try omega
      · have hn : ((a :: k :: b :: r).all nm) = false := by simpa using hn
        rw [hn, bt (by rfl)]
        match r with
        | [] => show _ = M.ok (_ && false); rw [Bool.and_false]
        | [c] => show _ = M.ok (_ && false); rw [Bool.and_false]
        | _ :: _ :: _ => rfl
  · rw [decide_eq_false h3, if_neg h3]; rfl
end Cl

/-! the plain law of k59, ninth part: a formed line -/
namespace Cl
open PySem PySem.Spec L2 Pf Tx
open PyProof.Rows hiding St
open M (need some!)
theorem good_len {w : Str} (h : Good w) : w.length ≤ 1000 := by rw [← cs_length]; have := h.2.1; omega
theorem nm_len {w : Str} (h : nm w = true) : (cs w).length ≤ 12 := by
  unfold nm at h
  cases hc : cs w with
  | nil => simp
  | cons a l =>
    rw [hc, nameB_cons, Bool.and_eq_true] at h
    have := of_decide_eq_true h.1
    rw [List.length_cons]; exact this
theorem nm_good {w : Str} (h : nm w = true) : Good w := by
  refine ⟨?_, by have := nm_len h; omega, fun z => ?_⟩
  · cases hc : cs w with
    | nil => unfold nm at h; rw [hc] at h; cases h
    | cons a l => simp
  · unfold nm at h
    cases hc : cs w with
    | nil => rw [hc] at z; cases z
    | cons a l =>
      rw [hc, nameB_cons, Bool.and_eq_true, Bool.and_eq_true, List.all_eq_true] at h
      have := of_decide_eq_true (h.2.2 32 (by rw [← hc]; exact z))
      revert this
      decide
theorem abc_nm : ∀ w ∈ (["a", "b", "c"] : List Str), nm w = true := by decide +kernel
theorem lits_good : ∀ w ∈ (["set", "ask", "alike", "read"] : List Str), Good w := by decide +kernel
theorem zeroes_good : ∀ w ∈ (["undo", "redo", "answers", "books", "questions"] : List Str), Good w := by decide +kernel
theorem onesR_good : ∀ w ∈ (["book", "drop", "answer", "print", "remove"] : List Str), Good w := by decide +kernel
theorem yn_good : ∀ w ∈ (["yes", "no"] : List Str), Good w := by decide +kernel
theorem ep_good : ∀ w ∈ (["ever", "places"] : List Str), Good w := by decide +kernel
theorem colon_cs : cs (":" : Str) = [58] := by decide +kernel
/-- a line: some good words -/
def LineN (n : Nat) (l : List Str) : Prop := 1 ≤ l.length ∧ l.length ≤ n ∧ ∀ w ∈ l, Good w
abbrev Line : List Str → Prop := LineN 10
theorem line_of {n : Nat} {l : List Str} (h1 : 1 ≤ l.length) (h2 : l.length ≤ n) (h : ∀ w ∈ l, Good w) : LineN n l := ⟨h1, h2, h⟩
theorem emod_lo (a : Int) {b : Int} (h : 0 < b) : 0 ≤ a % b ∧ a % b < b := ⟨Int.emod_nonneg _ (by omega), Int.emod_lt_of_pos _ h⟩
theorem draw {L : List Int} (hL : L.length = 60) {i : Int} (h0 : 0 ≤ i) (h1 : i < 60) (b : Int) (hb : 0 < b) : Ok ((((idx L i).bind fun r => .ok r).bind fun r => .ok (r % b))) fun x => 0 ≤ x ∧ x < b := by
  refine Ok.bind (P := fun _ => True) ?_ fun r _ => ⟨_, rfl, emod_lo r hb⟩
  exact Ok.bind (Ok.idx h0 (by rw [hL]; exact h1)) fun r _ => ⟨_, rfl, trivial⟩
theorem pickT {xs : List Str} {i : Int} (h0 : 0 ≤ i) (h1 : i < xs.length) (hg : ∀ w ∈ xs, Good w) : Ok (idx (Tup.mk xs).l i) Good := (Ok.idxM h0 h1).imp fun w hw => hg w hw
theorem formed_ok {L : List Int} (hL : L.length = 60) {words : List Str} (hw : ∀ w ∈ words, Good w) (hwl : words.length ≤ 10) : Ok (m_q_formed L words) (LineN 9) := by
  unfold m_q_formed
  refine Ok.bind (P := fun names => 3 ≤ names.length ∧ names.length ≤ 13 ∧ ∀ w ∈ names, nm w = true) ?_ fun names hn => ?_
  · rw [compM_eq (p := nm) (g := fun x => x) (fun x hx => qnm_ok (good_len (hw x hx))) fun x _ _ => rfl, M.bindK, List.map_id']
    have hf := List.length_filter_le nm words
    refine (Ok.catL (by show (words.filter nm).length + 3 ≤ _; omega)).imp fun z hz => ?_
    subst hz
    refine ⟨by rw [List.length_append]; simp, by rw [List.length_append]; show _ + 3 ≤ _; omega, fun w hw' => ?_⟩
    rcases List.mem_append.mp hw' with z | z
    · exact (List.mem_filter.mp z).2
    · exact abc_nm w z
  · have ng : ∀ w ∈ names, Good w := fun w h => nm_good (hn.2.2 w h)
    have g0 : ∀ {i : Int}, 0 ≤ i → i < 3 → Ok (idx names i) Good := fun h0 h1 => (Ok.idxM h0 (by omega)).imp fun w h => ng w h
    have lg : ∀ w ∈ (["set", "ask", "alike", "read"] : List Str), Good w := lits_good
    refine Ok.bind (draw hL (by omega) (by omega) 12 (by omega)) fun kind hk => ?_
    refine Ok.ite (fun c => ?_) fun _ => Ok.ite (fun c => ?_) fun _ => Ok.ite (fun c => ?_) fun _ => Ok.ite (fun c => ?_) fun _ => Ok.ite (fun c => ?_) fun _ => ?_
    · have c := of_decide_eq_true c
      refine Ok.bind (P := LineN 9) ?_ fun l hl => ⟨_, rfl, hl⟩
      exact Ok.bind (pickT (by omega) (by show kind < 5; omega) zeroes_good) fun w hw => ⟨_, rfl, line_of (by simp) (by simp) (by simpa using hw)⟩
    · refine Ok.bind (P := LineN 9) ?_ fun l hl => ⟨_, rfl, hl⟩
      refine Ok.bind (P := Good) ?_ fun w1 h1 => ?_
      · exact Ok.bind (draw hL (by omega) (by omega) 5 (by omega)) fun r hr => pickT hr.1 (by show r < 5; omega) onesR_good
      · exact Ok.bind (g0 (by omega) (by omega)) fun w2 h2 => ⟨_, rfl, line_of (by simp) (by simp) (by simpa using ⟨h1, h2⟩)⟩
    · refine Ok.bind (P := LineN 9) ?_ fun l hl => ⟨_, rfl, hl⟩
      refine Ok.bind (g0 (by omega) (by omega)) fun w1 h1 => Ok.bind (g0 (by omega) (by omega)) fun w2 h2 => ?_
      refine Ok.bind (P := Good) ?_ fun w3 h3 => ⟨_, rfl, line_of (by simp) (by simp) (by simpa using ⟨lg _ (by simp), h1, h2, h3⟩)⟩
      exact Ok.bind (draw hL (by omega) (by omega) 2 (by omega)) fun r hr => pickT hr.1 (by show r < 2; omega) yn_good
    · refine Ok.bind (P := LineN 9) ?_ fun l hl => ⟨_, rfl, hl⟩
      refine Ok.bind (g0 (by omega) (by omega)) fun w1 h1 => Ok.bind (g0 (by omega) (by omega)) fun w2 h2 => Ok.bind (g0 (by omega) (by omega)) fun w3 h3 => ⟨_, rfl, line_of (by simp) (by simp) (by simpa using ⟨lg _ (by simp), h1, lg _ (by simp), h2, h3⟩)⟩
    · refine Ok.bind (P := LineN 9) ?_ fun l hl => ⟨_, rfl, hl⟩
      refine Ok.bind (g0 (by omega) (by omega)) fun w1 h1 => ?_
      refine Ok.bind (P := Good) ?_ fun w2 h2 => Ok.bind (g0 (by omega) (by omega)) fun w3 h3 => ⟨_, rfl, line_of (by simp) (by simp) (by simpa using ⟨lg _ (by simp), h1, h2, h3⟩)⟩
      exact Ok.bind (draw hL (by omega) (by omega) 2 (by omega)) fun r hr => pickT hr.1 (by show r < 2; omega) ep_good
    · refine Ok.bind (P := LineN 9) ?_ fun l hl => ⟨_, rfl, hl⟩
      refine Ok.bind (P := fun l => l.length = 2 ∧ ∀ w ∈ l, Good w) ?_ fun l1 hl1 => ?_
      · exact Ok.bind (g0 (by omega) (by omega)) fun w h => ⟨_, rfl, rfl, by simpa using ⟨lg _ (by simp), h⟩⟩
      · refine Ok.bind (P := fun l => l.length ≤ 3 ∧ ∀ w ∈ l, Good w) ?_ fun l2 hl2 => ?_
        · refine Ok.bind (P := fun xs : List Int => xs.length ≤ 3) ?_ fun xs hxs => ?_
          · refine Ok.bind (draw hL (by omega) (by omega) 4 (by omega)) fun r hr => ?_
            exact (Ok.range (by omega) (by omega) (by omega) (by omega)).imp fun xs h => by rw [h, rangeL_len]; omega
          · refine (Ok.mapM (Q := Good) fun e he => ?_).imp fun ys h => ⟨by rw [h.1]; exact hxs, h.2⟩
            refine Ok.bind (P := fun w => (cs w).length ≤ 13 ∧ Good w) ?_ fun w hw => ?_
            · refine Ok.bind (P := fun w => nm w = true) ?_ fun w hw => ?_
              · refine Ok.bind (Ok.modI (by omega)) fun r hr => ?_
                subst hr
                have := emod_lo (e + 1) (b := (names.length : Int)) (by omega)
                exact (Ok.idxM this.1 this.2).imp fun w h => hn.2.2 w h
              · have := nm_len hw
                have lc : (cs (":" : Str)).length = 1 := by rw [colon_cs]; rfl
                refine (Ok.catS (by rw [← cs_length, ← cs_length]; omega)).imp fun z hz => ?_
                subst hz
                exact ⟨by rw [cs_append, List.length_append]; omega, good_cat (nm_good hw) (by omega) (by rw [colon_cs]; decide)⟩
            · have m2 := emod_lo e (b := 2) (by omega)
              refine Ok.bind ((Ok.idxM m2.1 (by omega)).imp fun w h => hn.2.2 w h) fun w2 h2 => ?_
              have := nm_len h2
              refine (Ok.catS (by rw [← cs_length, ← cs_length]; omega)).imp fun z hz => ?_
              subst hz
              exact good_cat hw.2 (by omega) (nm_good h2).2.2
        · refine (Ok.catL (by omega)).imp fun z hz => ?_
          subst hz
          refine line_of (by rw [List.length_append]; omega) (by rw [List.length_append]; omega) fun w hw => ?_
          exact (List.mem_append.mp hw).elim (hl1.2 w) (hl2.2 w)
end Cl

/-! the plain law of k59, tenth part: the text and its words -/
namespace Cl
open PySem PySem.Spec L2 Pf Tx
open PyProof.Rows hiding St
open M (need some!)
theorem empty_iff (p : List Nat) : (!decide (mkS p = ("" : Str))) = !p.isEmpty := by
  rw [lit_empty]
  cases p with
  | nil => rw [decide_eq_true (show mkS [] = (⟨#[]⟩ : Str) from rfl)]; rfl
  | cons a r =>
    rw [decide_eq_false]
    · rfl
    · intro z
      have := congrArg cs z
      rw [cs_mk] at this
      cases this
theorem split_words_ok {x : Str} (h : x.length ≤ 1000000) : m_split_words x = .ok ((wordsL 32 (cs x)).map mkS) := by
  refine Ok.is ?_
  unfold m_split_words
  rw [lit_space]
  refine Ok.bind (P := fun r => r = (wordsL 32 (cs x)).map mkS) ?_ fun r hr => ⟨_, rfl, hr⟩
  refine Ok.bind (Ok.splitOne h) fun r hr => ⟨_, rfl, ?_⟩
  subst hr
  unfold wordsL
  rw [List.map_id', List.filter_map]
  congr 1
  exact List.filter_congr fun p _ => empty_iff p
theorem back (ws : List Str) : (ws.map cs).map mkS = ws := by
  rw [List.map_map]
  conv => rhs; rw [← List.map_id ws]
  exact List.map_congr_left fun w _ => mk_cs w
/-- the text after k of the words -/
def TextInv (ws : List Str) (k : Nat) (t : Str) : Prop := (cs t).length ≤ 10 + 50 * k ∧
  (k < ws.length → ∀ l, wordsL 32 (cs t ++ l) = (ws.take k).map cs ++ wordsL 32 l) ∧ (k = ws.length → ∀ m, wordsL 32 (cs t ++ List.replicate m 32) = ws.map cs)
theorem good_ne {w : Str} (h : Good w) : cs w ≠ [] := by
  intro z
  have := h.1
  rw [z] at this
  exact absurd this (by decide)
theorem wordsL_end {x : List Nat} (h : 32 ∉ x) (hx : x ≠ []) (m : Nat) : wordsL 32 (x ++ List.replicate m 32) = [x] := by
  cases m with
  | zero => rw [List.replicate_zero, List.append_nil]; exact wordsL_one h hx
  | succ m =>
    rw [List.replicate_succ, wordsL_word h hx]
    have := wordsL_rep 32 m []
    rw [List.append_nil] at this
    rw [this]; rfl
theorem take_snoc {ws : List Str} {k : Nat} {w : Str} (h : ws[k]? = some w) : ws.take (k + 1) = ws.take k ++ [w] := by
  rw [List.take_succ, h]; rfl
theorem text_ok {L : List Int} (hL : L.length = 60) {ws : List Str} (hw : Line ws) {t0 : Str} {a : Nat} (ha : a ≤ 10) (h0 : cs t0 = List.replicate a 32) :
    Ok (foldM (m_law_b1 L ws) t0 (rangeL 0 (ws.length : Int))) fun t => TextInv ws ws.length t := by
  have hlen : (rangeL 0 (ws.length : Int)).length = ws.length := by rw [rangeL_len]; omega
  have := Ok.foldM (f := m_law_b1 L ws) (I := TextInv ws) (xs := rangeL 0 (ws.length : Int)) (s := t0) (n := 0) ?_ fun k t x hk hx hi => ?_
  · rw [hlen, Nat.zero_add] at this; exact this
  · refine ⟨by rw [h0, List.length_replicate]; omega, fun _ l => by rw [h0, wordsL_rep]; rfl, fun z => ?_⟩
    have := hw.1; omega
  · obtain ⟨hx, hk2⟩ := rangeL_get hx
    rw [hlen] at hk
    rw [Nat.zero_add] at hi ⊢
    have hx : x = (k : Int) := by omega
    subst hx
    unfold m_law_b1
    obtain ⟨w, hwk⟩ : ∃ w, ws[k]? = some w := ⟨_, List.getElem?_eq_getElem hk⟩
    have gw := hw.2.2 w (List.mem_of_getElem? hwk)
    have hb : 50 * k ≤ 500 := by have := hw.2.1; omega
    obtain ⟨i1, i2, _⟩ := hi
    have i2 := i2 hk
    have closed : ∀ m, wordsL 32 (cs (t ++ w) ++ List.replicate m 32) = (ws.take (k + 1)).map cs := fun m => by
      rw [cs_append, List.append_assoc, i2, wordsL_end gw.2.2 (good_ne gw), take_snoc hwk, List.map_append]; rfl
    have lw := gw.2.1
    refine Ok.bind (P := fun t1 => t1 = t ++ w) ?_ fun t1 ht1 => ?_
    · rw [idx_at hwk, M.bindK]
      exact Ok.catS (by rw [← cs_length, ← cs_length]; omega)
    · subst ht1
      refine Ok.ite (fun c => ?_) fun c => ?_
      · have c := of_decide_eq_true c
        refine Ok.bind (P := TextInv ws (k + 1)) ?_ fun t2 ht2 => ⟨_, rfl, ht2⟩
        refine Ok.bind (P := fun z => ∃ j, 1 ≤ j ∧ j ≤ 3 ∧ cs z = List.replicate j 32) ?_ fun z hz => ?_
        · refine Ok.bind (P := fun n => 1 ≤ n ∧ n ≤ 3) ?_ fun n hn => (Ok.spaces (by omega) (by omega)).imp fun z hz => ⟨n.toNat, by omega, by omega, hz⟩
          refine Ok.bind (P := fun n => 0 ≤ n ∧ n < 3) ?_ fun n hn => ⟨_, rfl, by omega, by omega⟩
          refine Ok.bind (P := fun _ => True) ?_ fun r _ => ⟨_, rfl, emod_lo r (by omega)⟩
          refine Ok.bind (P := fun _ => True) ?_ fun r _ => ⟨_, rfl, trivial⟩
          refine Ok.bind (P := fun _ => True) ((Ok.idx (by omega) (by rw [hL]; omega)).imp fun _ _ => trivial) fun r _ => ?_
          refine Ok.bind (P := fun _ => True) ?_ fun r _ => ⟨_, rfl, trivial⟩
          refine Ok.bind (P := fun _ => True) ((Ok.idx (by omega) (by rw [hL]; omega)).imp fun _ _ => trivial) fun r _ => ?_
          exact (Ok.mulI (by omega)).imp fun _ _ => trivial
        · obtain ⟨j, j1, j2, hj⟩ := hz
          refine (Ok.catS (by rw [← cs_length, ← cs_length, cs_append, List.length_append, hj, List.length_replicate]; omega)).imp fun t2 ht2 => ?_
          subst ht2
          refine ⟨by rw [cs_append, cs_append, List.length_append, List.length_append, hj, List.length_replicate]; omega, fun _ l => ?_, fun z => by omega⟩
          obtain ⟨j', rfl⟩ : ∃ j', j = j' + 1 := ⟨j - 1, by omega⟩
          rw [cs_append, cs_append, hj, List.append_assoc, List.append_assoc, i2, List.replicate_succ, List.cons_append, wordsL_word gw.2.2 (good_ne gw), wordsL_rep, take_snoc hwk, List.map_append, List.append_assoc]; rfl
      · have c : ¬ ((k : Int) + 1 < (ws.length : Int)) := fun z => c (decide_eq_true z)
        have e : k + 1 = ws.length := by omega
        refine ⟨_, rfl, ?_⟩
        refine ⟨by rw [cs_append, List.length_append]; omega, fun z => by omega, fun _ m => ?_⟩
        rw [closed m, e, List.take_length]
end Cl

/-! the plain law of k59, eleventh part: rows are shown -/
namespace Cl
open PySem PySem.Spec L2 Pf Tx
open PyProof.Rows hiding St
open M (need some!)
def Small (x : Str) : Prop := x.length ≤ 12 ∧ ∀ c ∈ x.cps.toList, c < 16 ^ 8
theorem nameB_small {l : List Nat} (h : nameB l = true) : Small (mkS l) := by
  cases l with
  | nil => cases h
  | cons a r =>
    rw [nameB_cons, Bool.and_eq_true, Bool.and_eq_true, List.all_eq_true] at h
    refine ⟨by rw [len_mk]; exact of_decide_eq_true h.1, fun c hc => ?_⟩
    have hc : c ∈ cs (mkS (a :: r)) := hc
    rw [cs_mk] at hc
    have := of_decide_eq_true (h.2.2 c hc)
    have big : ∀ c ∈ alnum, c < 16 ^ 8 := by decide
    exact big c this
theorem pair_small {l : List Nat} {p : Str × Str} (h : pairOf l = some p) : Small p.1 ∧ Small p.2 := by
  unfold pairOf at h
  split at h
  · split at h
    · rename_i q
      rw [Bool.and_eq_true] at q
      cases h
      exact ⟨nameB_small q.1, nameB_small q.2⟩
    · cases h
  · cases h
theorem loopP_small : ∀ {ws : List Str} {s : Rows}, (∀ p ∈ s, Small p.1 ∧ Small p.2) → match loopP s ws with
    | .go s' => (∀ p ∈ s', Small p.1 ∧ Small p.2) ∧ s'.length ≤ s.length + ws.length
    | .out o => o = none
  | [], s, h => ⟨h, Nat.le_refl _⟩
  | w :: ws, s, h => by
    unfold loopP
    cases e : pairOf (cs w) with
    | none => rfl
    | some p =>
      have := loopP_small (ws := ws) (s := s ++ [p]) fun q hq => by
        rcases List.mem_append.mp hq with z | z
        · exact h q z
        · rw [List.mem_singleton.mp z]; exact pair_small e
      show match loopP (s ++ [p]) ws with | .go s' => _ | .out o => _
      revert this
      cases loopP (s ++ [p]) ws with
      | go s' => exact fun z => ⟨z.1, by have := z.2; rw [List.length_append] at this; rw [List.length_cons]; simp at this; omega⟩
      | out o => exact fun z => z
theorem textFrom_up : ∀ (ts : List Str) (k : Nat) (acc : Str), (textFrom k acc ts).length ≤ acc.length + (ts.map fun t => t.length + 2).sum
  | [], k, acc => by simp [textFrom]
  | t :: r, k, acc => by
    have ih := textFrom_up r (k + 1) (acc ++ (if k > 0 then ", " else "" : String) ++ t)
    have e : textFrom k acc (t :: r) = textFrom (k + 1) (acc ++ (if k > 0 then ", " else "" : String) ++ t) r := rfl
    rw [e]
    have l1 : (acc ++ (if k > 0 then ", " else "" : String) ++ t : Str).length ≤ acc.length + 2 + t.length := by
      rw [Str.length_append, Str.length_append]
      have : ((if k > 0 then ", " else "" : String) : Str).length ≤ 2 := by
        split
        · decide +kernel
        · decide +kernel
      omega
    rw [List.map_cons, List.sum_cons]
    omega
theorem tup_len {a b : Str} (ha : Small a) (hb : Small b) : (PyData.shown (.tuple [.str a, .str b])).length ≤ 300 := by
  have e : PyData.shown (.tuple [.str a, .str b]) = tupleText [reprText a, reprText b] := by
    simp only [PyData.shown, PyData.shownAll]
  rw [e]
  unfold tupleText
  have r1 := StrLaws.reprText_len a ha.2
  have r2 := StrLaws.reprText_len b hb.2
  have l1 := ha.1
  have l2 := hb.1
  show (("(" : Str) ++ (reprText a ++ ", " ++ reprText b) ++ (")" : Str)).length ≤ 300
  rw [Str.length_append, Str.length_append, Str.length_append, Str.length_append]
  have c1 : ("(" : Str).length = 1 := by decide +kernel
  have c2 : (")" : Str).length = 1 := by decide +kernel
  have c3 : (", " : Str).length = 2 := by decide +kernel
  omega
theorem rows_py : ∀ rows : Rows, (∀ p ∈ rows, Small p.1 ∧ Small p.2) → PyData.showableAll (pyAll (encL rows)) = true ∧ PyData.depthAll (pyAll (encL rows)) ≤ 1 ∧ ((PyData.shownAll (pyAll (encL rows))).map fun t => t.length + 2).sum ≤ 302 * rows.length
  | [], _ => ⟨by simp [encL, pyAll, PyData.showableAll], by simp [encL, pyAll, PyData.depthAll], by simp [encL, pyAll, PyData.shownAll]⟩
  | (a, b) :: r, h => by
    obtain ⟨i1, i2, i3⟩ := rows_py r fun p hp => h p (List.mem_cons_of_mem _ hp)
    obtain ⟨ha, hb⟩ := h (a, b) List.mem_cons_self
    have e : pyAll (encL ((a, b) :: r)) = .tuple [.str a, .str b] :: pyAll (encL r) := rfl
    rw [e]
    refine ⟨?_, ?_, ?_⟩
    · unfold PyData.showableAll
      rw [i1]; simp [PyData.showable, PyData.showableAll]
    · unfold PyData.depthAll
      simp only [PyData.depth, PyData.depthAll]
      omega
    · unfold PyData.shownAll
      rw [List.map_cons, List.sum_cons]
      have : (PyData.shown (.tuple [.str a, .str b])).length ≤ 300 := tup_len ha hb
      rw [List.length_cons]
      omega
theorem repr_ok {ws : List Str} (hl : ws.length ≤ 1000) : ∃ t, reprM (rowP ws) = .ok t := by
  have sm := loopP_small (ws := ws) (s := []) fun _ h => nomatch h
  unfold rowP
  revert sm
  cases loopP [] ws with
  | out o =>
    intro z
    have z : o = none := z
    subst z
    exact ⟨_, rfl⟩
  | go s =>
    intro z
    obtain ⟨i1, i2, i3⟩ := rows_py s z.1
    have hs : s.length ≤ 1000 := by have := z.2; simp at this; omega
    refine ⟨(enc (some s : Option Rows)).py.shown, ?_⟩
    show reprM (some s : Option Rows) = _
    unfold reprM
    have e : (enc (some s : Option Rows)).py = .list (pyAll (encL s)) := rfl
    rw [e, M.need_true]
    rw [Bool.and_eq_true, Bool.and_eq_true]
    refine ⟨⟨by simp only [PyData.showable]; exact i1, decide_eq_true ?_⟩, decide_eq_true ?_⟩
    · simp only [PyData.shown]
      unfold listText
      rw [Str.length_append]
      have := textFrom_up (PyData.shownAll (pyAll (encL s))) 0 "["
      have c1 : ("[" : Str).length = 1 := by decide +kernel
      have c2 : ("]" : Str).length = 1 := by decide +kernel
      unfold sizeLine
      omega
    · simp only [PyData.depth]
      omega
end Cl

/-! the plain law of k59: the end -/
namespace Cl
open PySem PySem.Spec L2 Pf Tx
open PyProof.Rows hiding St
open M (need some!)
theorem b2_ok {ws : List Str} (hw : Line ws) {e : Int} (h0 : 0 ≤ e) : m_law_b2 ws ws () e = .ok (Fl.nx ()) := by
  obtain ⟨k, rfl⟩ : ∃ k : Nat, e = (k : Int) := ⟨e.toNat, by omega⟩
  unfold m_law_b2
  have hd : ∀ w ∈ ws.drop k, w.length ≤ 1000 := fun w h => good_len (hw.2.2 w (List.mem_of_mem_drop h))
  have hl : (ws.drop k).length ≤ 1000 := by rw [List.length_drop]; have := hw.2.1; omega
  obtain ⟨t, ht⟩ := repr_ok hl
  rw [cutL_some_none, rowof_ok hd hl, rowdue_ok hd hl]
  simp only [M.bindK, ht]
  simp
theorem loop_nx {f : Unit → Int → M (Fl Unit Bool)} : ∀ {xs : List Int}, (∀ x ∈ xs, f () x = .ok (Fl.nx ())) → loopM f () xs = .ok (.go ())
  | [], _ => rfl
  | x :: xs, h => by
    unfold loopM
    rw [h x List.mem_cons_self]
    exact loop_nx fun y hy => h y (List.mem_cons_of_mem _ hy)
theorem tab_split : m_split_words ("a\tb \t" : Str) = .ok (["a\tb", "\t"] : List Str) := by
  have e : cs ("a\tb \t" : Str) = [97, 9, 98, 32, 9] := by decide +kernel
  rw [split_words_ok (by rw [← cs_length, e]; decide), e]
  have : (wordsL 32 [97, 9, 98, 32, 9]).map mkS = (["a\tb", "\t"] : List Str) := by decide +kernel
  rw [this]
theorem blank_split {z : Str} {n : Nat} (hn : n ≤ 1000) (h : cs z = List.replicate n 32) : m_split_words z = .ok [] := by
  rw [split_words_ok (by rw [← cs_length, h, List.length_replicate]; omega), h]
  have := wordsL_rep 32 n []
  rw [List.append_nil] at this
  rw [this]; rfl
theorem law_true (ns : List Int) (hns : ns.length ≤ 63) : m_law ns = .ok true := by
  refine Ok.is ?_
  unfold m_law
  refine Ok.bind numbers_ok fun L hL => ?_
  refine Ok.bind (P := Line) ?_ fun words hw => ?_
  · refine Ok.bind (P := fun xs : List Int => 1 ≤ xs.length ∧ xs.length ≤ 7 ∧ ∀ x ∈ xs, 0 ≤ x ∧ x < 7) ?_ fun xs hxs => ?_
    · refine Ok.bind (P := fun n => 1 ≤ n ∧ n ≤ 7) ?_ fun n hn => ?_
      · exact Ok.bind (draw hL (by omega) (by omega) 7 (by omega)) fun r hr => ⟨_, rfl, by omega, by omega⟩
      · refine (Ok.range (by omega) (by omega) (by omega) (by omega)).imp fun xs h => ?_
        subst h
        exact ⟨by rw [rangeL_len]; omega, by rw [rangeL_len]; omega, fun x hx => by have := rangeL_mem hx; omega⟩
    · refine (Ok.mapM (Q := Good) fun e he => ?_).imp fun ys h => line_of (by rw [h.1]; exact hxs.1) (by rw [h.1]; omega) h.2
      have hr := hxs.2.2 e he
      exact Ok.bind (Ok.idx (by omega) (by rw [hL]; omega)) fun a _ => Ok.bind (Ok.idx (by omega) (by rw [hL]; omega)) fun b _ => word_ok a b
  refine Ok.bind (P := fun _ => True) ?_ fun r _ => ?_
  · exact Ok.bind (draw hL (by omega) (by omega) 3 (by omega)) fun r _ => ⟨_, rfl, trivial⟩
  refine Ok.bind (P := Line) ?_ fun ws hws => ?_
  · refine Ok.ite (fun _ => ?_) fun _ => ⟨_, rfl, hw⟩
    refine Ok.bind (formed_ok hL hw.2.2 hw.2.1) fun line hl => ?_
    have w0 : Ok (idx words 0) Good := (Ok.idxM (by omega) (by have := hw.1; omega)).imp fun w h => hw.2.2 w h
    refine Ok.bind (P := fun p => 0 ≤ p ∧ p < (line.length : Int)) ?_ fun p hp => ?_
    · refine Ok.bind (P := fun _ => True) ?_ fun r _ => (Ok.modI (by have := hl.1; omega)).imp fun z hz => by rw [hz]; exact emod_lo r (by have := hl.1; omega)
      exact Ok.bind ((Ok.idx (by omega) (by rw [hL]; omega)).imp fun _ _ => trivial) fun r _ => ⟨_, rfl, trivial⟩
    refine Ok.bind (P := fun _ => True) ?_ fun r _ => ?_
    · exact Ok.bind (draw hL (by omega) (by omega) 6 (by omega)) fun r _ => ⟨_, rfl, trivial⟩
    refine Ok.bind (P := LineN 9) ?_ fun l1 hl1 => ?_
    · refine Ok.ite (fun _ => ?_) fun _ => ⟨_, rfl, hl⟩
      refine Ok.bind w0 fun w gw => ?_
      dsimp only
      rw [ixN_ok hp.1 hp.2]
      refine ⟨_, rfl, ?_⟩
      refine line_of (by rw [List.length_set]; exact hl.1) (by rw [List.length_set]; exact hl.2.1) fun x hx => ?_
      rcases List.mem_or_eq_of_mem_set hx with z | z
      · exact hl.2.2 x z
      · rw [z]; exact gw
    refine Ok.bind (P := fun b => b = true → 1 < l1.length) ?_ fun b hb => ?_
    · refine Ok.bind (P := fun _ => True) ?_ fun r _ => Ok.ite (fun _ => ⟨_, rfl, fun z => by have := of_decide_eq_true z; omega⟩) fun _ => ⟨_, rfl, fun z => nomatch z⟩
      exact Ok.bind (draw hL (by omega) (by omega) 6 (by omega)) fun r _ => ⟨_, rfl, trivial⟩
    refine Ok.bind (P := LineN 9) ?_ fun l2 hl2 => ?_
    · refine Ok.ite (fun c => ?_) fun _ => ⟨_, rfl, hl1⟩
      have hb := hb c
      obtain ⟨k, rfl⟩ : ∃ k : Nat, p = (k : Int) := ⟨p.toNat, by omega⟩
      rw [cutL_none_some, show (k : Int) + 1 = ((k + 1 : Nat) : Int) by omega, cutL_some_none]
      have t1 := hl1.2.1
      refine Ok.bind (P := LineN 9) ?_ fun l2 h => ⟨_, rfl, h⟩
      refine (Ok.catL (by rw [List.length_take, List.length_drop]; omega)).imp fun z hz => ?_
      subst hz
      refine line_of (by rw [List.length_append, List.length_take, List.length_drop]; omega) (by rw [List.length_append, List.length_take, List.length_drop]; omega) fun x hx => ?_
      exact (List.mem_append.mp hx).elim (fun z => hl1.2.2 x (List.mem_of_mem_take z)) fun z => hl1.2.2 x (List.mem_of_mem_drop z)
    refine Ok.bind (P := fun _ => True) ?_ fun r _ => ?_
    · exact Ok.bind (draw hL (by omega) (by omega) 6 (by omega)) fun r _ => ⟨_, rfl, trivial⟩
    refine Ok.bind (P := Line) ?_ fun l3 hl3 => ⟨_, rfl, hl3⟩
    refine Ok.ite (fun _ => ?_) fun _ => ⟨_, rfl, hl2.1, by have := hl2.2.1; omega, hl2.2.2⟩
    refine Ok.bind w0 fun w gw => Ok.needD (by unfold sizeLine; have := hl2.2.1; omega) ⟨_, rfl, ?_⟩
    refine line_of (by rw [List.length_append]; simp) (by rw [List.length_append]; have := hl2.2.1; simp; omega) fun x hx => ?_
    exact (List.mem_append.mp hx).elim (hl2.2.2 x) fun z => by rw [List.mem_singleton.mp z]; exact gw
  have sp : ∀ {i : Int}, 0 ≤ i → i < 60 → ∀ b : Int, 0 < b → b ≤ 10 → Ok ((((idx L i).bind fun r => M.ok r).bind fun r => M.ok (r % b)).bind fun r => mulS (" " : Str) r) fun z => ∃ n, n ≤ 10 ∧ cs z = List.replicate n 32 := fun h0 h1 b hb hb2 =>
    Ok.bind (draw hL h0 h1 b hb) fun r hr => (Ok.spaces hr.1 (by omega)).imp fun z hz => ⟨r.toNat, by omega, hz⟩
  refine Ok.bind (sp (by omega) (by omega) 3 (by omega) (by omega)) fun t0 ht0 => ?_
  obtain ⟨a, ha, ht0⟩ := ht0
  have wl := hws.2.1
  refine Ok.bind (Ok.range (by omega) (by omega) (by omega) (by omega)) fun xs hxs => ?_
  subst hxs
  refine Ok.bind (text_ok hL hws ha ht0) fun t ht => ?_
  obtain ⟨t1, _, t3⟩ := ht
  refine Ok.bind (P := fun z => ∃ n, n ≤ 10 ∧ cs z = cs t ++ List.replicate n 32) ?_ fun z hz => ?_
  · refine Ok.bind (sp (by omega) (by omega) 3 (by omega) (by omega)) fun z hz => ?_
    obtain ⟨n, hn, hz⟩ := hz
    refine (Ok.catS (by rw [← cs_length, ← cs_length, hz, List.length_replicate]; omega)).imp fun y hy => ⟨n, hn, ?_⟩
    rw [hy, cs_append, hz]
  obtain ⟨n, hn, hz⟩ := hz
  have told : m_split_words z = .ok ws := by
    rw [split_words_ok (by rw [← cs_length, hz, List.length_append, List.length_replicate]; omega), hz, t3 rfl n, back]
  rw [told, M.bindK]
  refine Ok.bind (P := fun r => r = false) ?_ fun r hr => ?_
  · refine Ok.ite (fun c => absurd c (by decide)) fun _ => Ok.ite (fun c => ?_) fun _ => ?_
    · unfold eqB at c
      rw [decide_eq_true rfl] at c; cases c
    · refine Ok.bind (P := fun r => r = []) ?_ fun r hr => ⟨_, rfl, by rw [hr]; unfold eqB; rw [decide_eq_true rfl]; rfl⟩
      refine Ok.bind (sp (by omega) (by omega) 4 (by omega) (by omega)) fun y hy => ?_
      obtain ⟨m, hm, hy⟩ := hy
      rw [blank_split (by omega) hy]
      exact ⟨_, rfl, rfl⟩
  subst hr
  rw [if_neg (by decide), tab_split]
  refine Ok.bind (P := fun r => r = false) ⟨_, rfl, by unfold eqB; rw [decide_eq_true rfl]; rfl⟩ fun r hr => ?_
  subst hr
  rw [if_neg (by decide)]
  dsimp only
  refine Ok.bind (Ok.range (by omega) (by omega) (by omega) (by omega)) fun xs hxs => ?_
  subst hxs
  rw [loop_nx fun x hx => b2_ok hws (rangeL_mem hx).1, M.bindK]
  show Ok ((m_is_command ws).bind _) _
  obtain ⟨F, rest, rfl⟩ : ∃ F rest, ws = F :: rest := by
    cases ws with
    | nil => exact absurd hws.1 (by decide)
    | cons F rest => exact ⟨F, rest, rfl⟩
  have hr : ∀ w ∈ rest, w.length ≤ 1000 := fun w h => good_len (hws.2.2 w (List.mem_cons_of_mem _ h))
  have hl : rest.length ≤ 1000 := by rw [List.length_cons] at wl; omega
  rw [is_command_ok hr hl, M.bindK, q_command_ok hr hl, M.bindK, M.bindK, if_pos rfl, decide_eq_true rfl, if_pos rfl, M.bindK]
  exact ⟨_, rfl, by unfold eqB; exact decide_eq_true rfl⟩
end Cl

/-! the head -/
namespace Cl
open PySem PySem.Spec L2 Pf
open PyProof.Rows hiding St
def dis_name : He.DefD := ⟨("is_name", none), "is_name", "is_name", defArgs sis_name, defBody sis_name, defScope sis_name, [], []⟩
def dsplit_words : He.DefD := ⟨("split_words", none), "split_words", "split_words", defArgs ssplit_words, defBody ssplit_words, defScope ssplit_words, [], []⟩
def drow_of : He.DefD := ⟨("row_of", none), "row_of", "row_of", defArgs srow_of, defBody srow_of, defScope srow_of, [], []⟩
def dis_command : He.DefD := ⟨("is_command", none), "is_command", "is_command", defArgs sis_command, defBody sis_command, defScope sis_command, [], []⟩
def dq_row : He.DefD := ⟨("_law_row", none), "_law_row", "_law_row", defArgs sq_row, defBody sq_row, defScope sq_row, [], []⟩
def dq_numbers : He.DefD := ⟨("_law_numbers", none), "_law_numbers", "_law_numbers", defArgs sq_numbers, defBody sq_numbers, defScope sq_numbers, [], []⟩
def dq_word : He.DefD := ⟨("_law_word", none), "_law_word", "_law_word", defArgs sq_word, defBody sq_word, defScope sq_word, [], []⟩
def dq_is_name : He.DefD := ⟨("_law_is_name", none), "_law_is_name", "_law_is_name", defArgs sq_is_name, defBody sq_is_name, defScope sq_is_name, [], []⟩
def dq_all_names : He.DefD := ⟨("_law_all_names", none), "_law_all_names", "_law_all_names", defArgs sq_all_names, defBody sq_all_names, defScope sq_all_names, [], []⟩
def dq_row_due : He.DefD := ⟨("_law_row_due", none), "_law_row_due", "_law_row_due", defArgs sq_row_due, defBody sq_row_due, defScope sq_row_due, [], []⟩
def dq_command : He.DefD := ⟨("_law_command", none), "_law_command", "_law_command", defArgs sq_command, defBody sq_command, defScope sq_command, [], []⟩
def dq_formed : He.DefD := ⟨("_law_formed", none), "_law_formed", "_law_formed", defArgs sq_formed, defBody sq_formed, defScope sq_formed, [], []⟩
def dlaw : He.DefD := ⟨("law", none), "law", "law", defArgs slaw, defBody slaw, defScope slaw, [], []⟩
def fnL : List He.DefD := [dis_name, dsplit_words, drow_of, dis_command, dq_row, dq_numbers, dq_word, dq_is_name, dq_all_names, dq_row_due, dq_command, dq_formed, dlaw]
def faL : List He.Fa := [.free "abs", .free "all", .free "bool", .free "int", .free "isinstance", .free "len", .free "list", .free "max", .free "range", .free "repr", .str "NAME_CHARS" "abcdefghijklmnopqrstuvwxyz0123456789", .int "MOST_NAME_CHARS" 12, .glo "FORMS", .glo "ASKED", .glo "is_name", .glo "split_words", .glo "row_of", .glo "is_command", .glo "_law_row", .glo "_law_numbers", .glo "_law_word", .glo "_law_is_name", .glo "_law_all_names", .glo "_law_row_due", .glo "_law_command", .glo "_law_formed", .glo "law"]
def tb0 : He.Tab := (fun K => He.ga K "FORMS", ["book", "undo", "redo", "drop", "answer", "answers", "print", "read", "books", "questions"])
def tb1 : He.Tab := (fun K => He.ga K "ASKED", ["alike", "ever", "places"])
def tbL : List He.Tab := [tb0, tb1]
def exL (K : PySem.W.Frag) : Bool := (tabChk K (He.ga K "FORMS") t_FORMS && tabChk K (He.ga K "ASKED") t_ASKED)
theorem facts_of {w : World} {K : PySem.W.Frag} {h : Heap} {mg : Str → Option Value} (X : K.In h) (G : h.Ns mainGlobals mg) (c : He.SaysX faL fnL tbL [] exL w h K) : Facts w K mg where
  b_abs := He.free_ok X G (c.t.d.fact 0 (f := .free "abs") rfl)
  b_all := He.free_ok X G (c.t.d.fact 1 (f := .free "all") rfl)
  b_bool := He.free_ok X G (c.t.d.fact 2 (f := .free "bool") rfl)
  b_int := He.free_ok X G (c.t.d.fact 3 (f := .free "int") rfl)
  b_isinstance := He.free_ok X G (c.t.d.fact 4 (f := .free "isinstance") rfl)
  b_len := He.free_ok X G (c.t.d.fact 5 (f := .free "len") rfl)
  b_list := He.free_ok X G (c.t.d.fact 6 (f := .free "list") rfl)
  b_max := He.free_ok X G (c.t.d.fact 7 (f := .free "max") rfl)
  b_range := He.free_ok X G (c.t.d.fact 8 (f := .free "range") rfl)
  b_repr := He.free_ok X G (c.t.d.fact 9 (f := .free "repr") rfl)
  c_NAME_CHARS := He.str_ok X G (c.t.d.fact 10 (f := .str "NAME_CHARS" "abcdefghijklmnopqrstuvwxyz0123456789") rfl)
  c_MOST_NAME_CHARS := He.int_ok X G (c.t.d.fact 11 (f := .int "MOST_NAME_CHARS" 12) rfl)
  t_FORMS := ⟨_, He.glo_ok X G (c.t.d.fact 12 (f := .glo "FORMS") rfl), tabOk_of (c.t.tab 0 (t := tb0) rfl) (Bool.and_eq_true_iff.mp c.more).1⟩
  t_ASKED := ⟨_, He.glo_ok X G (c.t.d.fact 13 (f := .glo "ASKED") rfl), tabOk_of (c.t.tab 1 (t := tb1) rfl) (Bool.and_eq_true_iff.mp c.more).2⟩
  d_is_name := c.t.d.def_ 0 (d := dis_name) rfl
  g_is_name := He.glo_ok X G (c.t.d.fact 14 (f := .glo "is_name") rfl)
  d_split_words := c.t.d.def_ 1 (d := dsplit_words) rfl
  g_split_words := He.glo_ok X G (c.t.d.fact 15 (f := .glo "split_words") rfl)
  d_row_of := c.t.d.def_ 2 (d := drow_of) rfl
  g_row_of := He.glo_ok X G (c.t.d.fact 16 (f := .glo "row_of") rfl)
  d_is_command := c.t.d.def_ 3 (d := dis_command) rfl
  g_is_command := He.glo_ok X G (c.t.d.fact 17 (f := .glo "is_command") rfl)
  d_q_row := c.t.d.def_ 4 (d := dq_row) rfl
  g_q_row := He.glo_ok X G (c.t.d.fact 18 (f := .glo "_law_row") rfl)
  d_q_numbers := c.t.d.def_ 5 (d := dq_numbers) rfl
  g_q_numbers := He.glo_ok X G (c.t.d.fact 19 (f := .glo "_law_numbers") rfl)
  d_q_word := c.t.d.def_ 6 (d := dq_word) rfl
  g_q_word := He.glo_ok X G (c.t.d.fact 20 (f := .glo "_law_word") rfl)
  d_q_is_name := c.t.d.def_ 7 (d := dq_is_name) rfl
  g_q_is_name := He.glo_ok X G (c.t.d.fact 21 (f := .glo "_law_is_name") rfl)
  d_q_all_names := c.t.d.def_ 8 (d := dq_all_names) rfl
  g_q_all_names := He.glo_ok X G (c.t.d.fact 22 (f := .glo "_law_all_names") rfl)
  d_q_row_due := c.t.d.def_ 9 (d := dq_row_due) rfl
  g_q_row_due := He.glo_ok X G (c.t.d.fact 23 (f := .glo "_law_row_due") rfl)
  d_q_command := c.t.d.def_ 10 (d := dq_command) rfl
  g_q_command := He.glo_ok X G (c.t.d.fact 24 (f := .glo "_law_command") rfl)
  d_q_formed := c.t.d.def_ 11 (d := dq_formed) rfl
  g_q_formed := He.glo_ok X G (c.t.d.fact 25 (f := .glo "_law_formed") rfl)
  d_law := c.t.d.def_ 12 (d := dlaw) rfl
  g_law := He.glo_ok X G (c.t.d.fact 26 (f := .glo "law") rfl)
theorem fin {w : World} {K : PySem.W.Frag} {h : Heap} {mg : Str → Option Value} {fa : Addr} (KX : K.In h) (G : h.Ns mainGlobals mg) (hmg : mg ("law" : PySem.Str) = some (.ref fa)) (c1 : He.obsT faL fnL tbL K = He.valT fnL tbL w) (c2 : exL K = true) :
    ∃ (fd : FuncData) (sp : Sp), (∀ (s : Shared) (u : Value), BindsTo s fd ⟨[u], []⟩ [("_law_script", u)]) ∧ (∀ (H : Hp) (a : Addr) (ns : List Int), ns.length ≤ 63 → SqL K H a (ns.map V.int) → sp [.ref a] H (fun v _ => v = .bl true) fun _ _ _ => False) ∧
      ∀ base : Heap, K.In base → base.Ns mainGlobals mg → RunAt callerA (PySem.Challenge.rw_fewestheld_k59_words_of_a_session).prog w K mg base (L2.CX (PySem.Challenge.rw_fewestheld_k59_words_of_a_session).prog w) fa fd ["_law_script"] sp := by
  have Z : Facts w K mg := facts_of KX G ⟨c1, c2, nofun, nofun, nofun⟩
  obtain rfl : fa = He.ga K "law" := by
    have e := hmg.symm.trans Z.g_law
    injection e with e; injection e
  exact ⟨Z.d_law.choose, SpLaw K (fun c => He.ga K c) (fun ns => ns.length ≤ 63), fun s v => (FunD.bindsA (ps := ["_law_script"]) Z.d_law.choose_spec fun _ _ _ _ _ _ us hl => match us, hl with | [_], _ => rfl) s [v] rfl, fun H a ns hl hS => ⟨ns, H, hl, Sub.refl H, .cons (.lst hS (ints_rp ns)) .nil, fun _ => rfl⟩,
    fun base _ _ => run_law_ (P := (PySem.Challenge.rw_fewestheld_k59_words_of_a_session).prog) ⟨rfl, by decide, by decide⟩ Z fun ns hl => law_true ns hl⟩
end Cl
open PySem PySem.W PyProof.Rows
set_option maxRecDepth 100000 in
set_option maxHeartbeats 0 in
theorem PySem.Challenge.cw_fewestheld_k59_words_of_a_session_holds : PySem.Challenge.rw_fewestheld_k59_words_of_a_session.Holds := by
  w_on; o_law; k_head; (case hw => w_witness2)
  k_fill
  refine Pf.walk_ofGK (l := PySem.Challenge.rw_fewestheld_k59_words_of_a_session) (n := 63) (x := "_law_script") rfl (by decide) rfl (fun w h Y => PySem.W.kIn_of Y) ?F
  case F =>
    intro w mg fa h KX G hmg
    refine Cl.fin KX G hmg ?c1 ?c2
    case c1 => kernel_rfl
    case c2 => kernel_rfl

