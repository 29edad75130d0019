import PyProof.Rows.All
import Wide.All
import OpenK.AllK
import Wide.FinOn
import HandS.ForMost
import HandS.Deep
import HandS.Style
import HandS.Iter
import HandS.ForExc
import HandS.Defaults
import HandS.TupAny
import HandS.TupMul
import HandS.TupLe
import HandS.Codes
import HandS.FStr
import HandS.IsInst
import HandS.Flow
import HandS.Zip
import KE.GoesEnum
import KE.GoesEnumKw
import HandS.Text
import HandS.HeadEnd
import PyProof.ReprReads
import PyProof.CallFns
import HandS.DictComp
import HandS.Dict
import HandS.SetKeys
import PyProof.P3Eq
import PyProof.StrLawsRepr
import PyProof.ReprLen
import PyProof.Rows.RegStrFacts
import KE.KStateDown
import HandS.Head0
import HandS.Head1
import HandS.Head2
import HandS.WordsExc
import HandS.HeadHook1
import HandS.HeadHook2
import PySem.Challenge.RW_lanebeats_k80_towns_written_and_read
/- ===== LBase ===== -/
set_option Elab.async false
set_option linter.all false
set_option maxRecDepth 100000
set_option autoImplicit false
namespace LB
open PySem PySem.Spec PyProof.Rows L2

/-! ## data and the abstract store -/
/-- data: tuples and (never again changed) lists are plain; `ref n`: the n-th object of the store; `scr ns`: the script -/
inductive D where
  | non | bl (b : Bool) | int (i : Int) | str (s : Str) | tup (ds : List D) | lst (ds : List D) | ref (n : Nat) | scr (ns : List Int)

/-- an object of the store -/
inductive O where
  | lst (ds : List D)
  | dK (locked : Bool) (kvs : List (Key × D))
  | dT (kvs : List (List Key × D))
  | ins (c : Str) (fs : List (Str × D))

abbrev Sto := List O
/-- an exception: its class's name, its fields -/
structure Ex where
  cls : Str
  fs : List (Str × D)

inductive Res (α : Type) where
  | ok (a : α) (st : Sto)
  | ex (x : Ex) (st : Sto)
  | stuck

def Res.bind {α β : Type} (r : Res α) (f : α → Sto → Res β) : Res β :=
  match r with
  | .ok a st => f a st
  | .ex x st => .ex x st
  | .stuck => .stuck
@[simp] theorem bind_ok {α β : Type} (a : α) (st : Sto) (f : α → Sto → Res β) : (Res.ok a st).bind f = f a st := rfl
@[simp] theorem bind_ex {α β : Type} (x : Ex) (st : Sto) (f : α → Sto → Res β) : (Res.ex x st).bind f = .ex x st := rfl
@[simp] theorem bind_stuck {α β : Type} (f : α → Sto → Res β) : (Res.stuck : Res α).bind f = .stuck := rfl

/-- where the store's objects lie (l); things that nothing may speak of for a while (b) -/
structure Rg where
  l : List Addr
  b : List Addr
def Rg.push (r : Rg) (a : Addr) : Rg := ⟨r.l ++ [a], r.b⟩
def KL (K : PySem.W.Frag) (a : Addr) (xs : List V) : Prop :=
  ∃ (o : Obj) (its : Array Value) (n : Nat), K.lookup a = some o ∧ o.cls = .type "list" ∧ o.dict = none ∧ o.data = .seq its n ∧ its.size ≤ sizeLine ∧ Vals xs its.toList
mutual
def Rep (K : PySem.W.Frag) (H : Hp) (r : Rg) : D → V → Prop
  | .non, v => v = .non
  | .bl b, v => v = .bl b
  | .int i, v => v = .int i
  | .str s, v => v = .str s
  | .tup ds, v => ∃ a xs, v = .ref a ∧ SqT K H a xs ∧ xs.length ≤ sizeLine ∧ Reps K H r ds xs
  | .lst ds, v => ∃ a xs, v = .ref a ∧ a ∉ r.l ∧ a ∉ r.b ∧ H a = some (.lst xs) ∧ xs.length ≤ sizeLine ∧ Reps K H r ds xs
  | .scr ns, v => ∃ a, v = .ref a ∧ ((a ∉ r.l ∧ a ∉ r.b ∧ Rd H a (.lst (ns.map V.int))) ∨ KL K a (ns.map V.int)) ∧ ns.length ≤ sizeLine
  | .ref n, v => ∃ a, v = .ref a ∧ r.l[n]? = some a
def Reps (K : PySem.W.Frag) (H : Hp) (r : Rg) : List D → List V → Prop
  | [], xs => xs = []
  | d :: ds, xs => ∃ y ys, xs = y :: ys ∧ Rep K H r d y ∧ Reps K H r ds ys
end

section
variable {K : PySem.W.Frag} {H : Hp} {r : Rg} {v : V}
theorem rep_non : Rep K H r .non v ↔ v = .non := by rw [Rep]
theorem rep_bl {b : Bool} : Rep K H r (.bl b) v ↔ v = .bl b := by rw [Rep]
theorem rep_int {i : Int} : Rep K H r (.int i) v ↔ v = .int i := by rw [Rep]
theorem rep_str {s : Str} : Rep K H r (.str s) v ↔ v = .str s := by rw [Rep]
theorem rep_tup {ds : List D} : Rep K H r (.tup ds) v ↔ ∃ a xs, v = .ref a ∧ SqT K H a xs ∧ xs.length ≤ sizeLine ∧ Reps K H r ds xs := by rw [Rep]
theorem rep_lst {ds : List D} : Rep K H r (.lst ds) v ↔ ∃ a xs, v = .ref a ∧ a ∉ r.l ∧ a ∉ r.b ∧ H a = some (.lst xs) ∧ xs.length ≤ sizeLine ∧ Reps K H r ds xs := by rw [Rep]
theorem rep_scr {ns : List Int} : Rep K H r (.scr ns) v ↔ ∃ a, v = .ref a ∧ ((a ∉ r.l ∧ a ∉ r.b ∧ Rd H a (.lst (ns.map V.int))) ∨ KL K a (ns.map V.int)) ∧ ns.length ≤ sizeLine := by rw [Rep]
theorem rep_ref {n : Nat} : Rep K H r (.ref n) v ↔ ∃ a, v = .ref a ∧ r.l[n]? = some a := by rw [Rep]
end
def RepKV {κ : Type} (K : PySem.W.Frag) (H : Hp) (r : Rg) : List (κ × D) → List (κ × V) → Prop
  | [], us => us = []
  | (k, d) :: rest, us => ∃ v us', us = (k, v) :: us' ∧ Rep K H r d v ∧ RepKV K H r rest us'

/-- the object at a is o -/
def OOk (K : PySem.W.Frag) (mg : Str → Option Value) (H : Hp) (r : Rg) (a : Addr) : O → Prop
  | .lst ds => ∃ xs, H a = some (.lst xs) ∧ xs.length ≤ sizeLine ∧ Reps K H r ds xs
  | .dK false kvs => ∃ us, H a = some (.dK us) ∧ us.length ≤ sizeLine ∧ RepKV K H r kvs us
  | .dK true kvs => ∃ us o, H a = some (.frz o (.dK us)) ∧ us.length ≤ sizeLine ∧ RepKV K H r kvs us
  | .dT kvs => ∃ us, H a = some (.dT us) ∧ us.length ≤ sizeLine ∧ RepKV K H r kvs us
  | .ins c fs => ∃ C dx us, mg c = some (.ref C) ∧ H a = some (.ins C dx us) ∧ RepKV K H r fs us

structure StOk (K : PySem.W.Frag) (mg : Str → Option Value) (H : Hp) (r : Rg) (st : Sto) : Prop where
  len : r.l.length = st.length
  nd : r.l.Nodup
  ob : ∀ (n : Nat) (a : Addr) (o : O), r.l[n]? = some a → st[n]? = some o → OOk K mg H r a o
  bt : ∀ a ∈ r.b, ∃ u, H a = some u
  lb : ∀ a ∈ r.l, a ∉ r.b

/-- later: r only grows (by new things), what isn't in r stays -/
structure Ext (r : Rg) (H : Hp) (r' : Rg) (H' : Hp) : Prop where
  pre : ∀ (n : Nat) (a : Addr), r.l[n]? = some a → r'.l[n]? = some a
  bsub : ∀ a, a ∈ r.b → a ∈ r'.b
  newb : ∀ a, a ∈ r'.b → a ∉ r.b → a ∉ r.l → H a = none
  new : ∀ a, a ∈ r'.l → a ∉ r.l → H a = none
  keep : ∀ a o, a ∉ r.l → H a = some o → H' a = some o

theorem Ext.refl (r : Rg) (H : Hp) : Ext r H r H := ⟨fun _ _ h => h, fun _ h => h, fun _ h n => absurd h n, fun _ h n => absurd h n, fun _ _ _ h => h⟩
theorem Ext.mem {r r' : Rg} {H H' : Hp} (e : Ext r H r' H') {a : Addr} (h : a ∈ r.l) : a ∈ r'.l := by
  obtain ⟨n, hn⟩ := List.mem_iff_getElem?.mp h
  exact List.mem_iff_getElem?.mpr ⟨n, e.pre n a hn⟩
theorem Ext.trans {r1 r2 r3 : Rg} {H1 H2 H3 : Hp} (a : Ext r1 H1 r2 H2) (b : Ext r2 H2 r3 H3) : Ext r1 H1 r3 H3 := by
  have st : ∀ x o, x ∉ r1.l → H1 x = some o → x ∉ r2.l := fun x o hx ho h2 => by
    have := a.new x h2 hx
    rw [ho] at this; cases this
  refine ⟨fun n x h => b.pre n x (a.pre n x h), fun x h => b.bsub x (a.bsub x h), fun x h3 h1 hl => ?_, fun x h3 h1 => ?_, fun x o hx ho => b.keep x o (st x o hx ho) (a.keep x o hx ho)⟩
  · by_cases h2 : x ∈ r2.b
    · exact a.newb x h2 h1 hl
    · by_cases h4 : x ∈ r2.l
      · exact a.new x h4 hl
      · have q := b.newb x h3 h2 h4
        cases e : H1 x with
        | none => rfl
        | some o => rw [a.keep x o hl e] at q; cases q
  by_cases h2 : x ∈ r2.l
  · exact a.new x h2 h1
  · have q := b.new x h3 h2
    cases e : H1 x with
    | none => rfl
    | some o => rw [a.keep x o h1 e] at q; cases q

theorem Rd.ext {r r' : Rg} {H H' : Hp} (e : Ext r H r' H') {a : Addr} {u : HO} (n : a ∉ r.l) (h : Rd H a u) : Rd H' a u := by
  rcases h with h | ⟨o, h⟩
  · exact .inl (e.keep _ _ n h)
  · exact .inr ⟨o, e.keep _ _ n h⟩

/-- a tracked object of r is a list, a dict, an instance: no tuple -/
theorem StOk.notup {K : PySem.W.Frag} {mg : Str → Option Value} {H : Hp} {r : Rg} {st : Sto} (S : StOk K mg H r st) {a : Addr} {xs : List V} (h : Rd H a (.tup xs)) : a ∉ r.l := fun hm => by
  obtain ⟨n, hn⟩ := List.mem_iff_getElem?.mp hm
  have hl : n < st.length := by
    have := (List.getElem?_eq_some_iff.mp hn).1
    rw [S.len] at this; exact this
  have q := S.ob n a st[n] hn (List.getElem?_eq_getElem hl)
  cases e : st[n] with
  | lst ds =>
    rw [e] at q; obtain ⟨us, q, _⟩ := q
    rcases h with h | ⟨o, h⟩ <;> rw [q] at h <;> cases h
  | dK l kvs =>
    rw [e] at q
    cases l with
    | false =>
      obtain ⟨us, q, _⟩ := q
      rcases h with h | ⟨o, h⟩ <;> rw [q] at h <;> cases h
    | true =>
      obtain ⟨us, o', q, _⟩ := q
      rcases h with h | ⟨o, h⟩ <;> rw [q] at h <;> cases h
  | dT kvs =>
    rw [e] at q; obtain ⟨us, q, _⟩ := q
    rcases h with h | ⟨o, h⟩ <;> rw [q] at h <;> cases h
  | ins c fs =>
    rw [e] at q; obtain ⟨C, dx, us, _, q, _⟩ := q
    rcases h with h | ⟨o, h⟩ <;> rw [q] at h <;> cases h

section
variable {K : PySem.W.Frag} {mg : Str → Option Value} {H H' : Hp} {r r' : Rg} {st : Sto}
theorem SqT.ext (S : StOk K mg H r st) (e : Ext r H r' H') {a : Addr} {xs : List V} (h : SqT K H a xs) : SqT K H' a xs := by
  rcases h with h | h
  · exact .inl (Rd.ext e (S.notup h) h)
  · exact .inr h
mutual
theorem Rep.ext (S : StOk K mg H r st) (e : Ext r H r' H') : ∀ (d : D) (v : V), Rep K H r d v → Rep K H' r' d v
  | .non, _, h => by rw [Rep] at h ⊢; exact h
  | .bl _, _, h => by rw [Rep] at h ⊢; exact h
  | .int _, _, h => by rw [Rep] at h ⊢; exact h
  | .str _, _, h => by rw [Rep] at h ⊢; exact h
  | .tup ds, _, h => by
    rw [Rep] at h ⊢
    obtain ⟨a, xs, h1, h2, h3, h4⟩ := h
    exact ⟨a, xs, h1, SqT.ext S e h2, h3, Reps.ext S e ds xs h4⟩
  | .lst ds, _, h => by
    rw [Rep] at h ⊢
    obtain ⟨a, xs, h1, hn, hb, h2, h3, h4⟩ := h
    refine ⟨a, xs, h1, fun hm => ?_, fun hm => ?_, e.keep _ _ hn h2, h3, Reps.ext S e ds xs h4⟩
    · have q := e.new a hm hn
      rw [h2] at q; cases q
    · have q := e.newb a hm hb hn
      rw [h2] at q; cases q
  | .scr ns, _, h => by
    rw [Rep] at h ⊢
    obtain ⟨a, h1, ⟨hn, hb, h2⟩ | hk, h3⟩ := h
    case inr => exact ⟨a, h1, .inr hk, h3⟩
    refine ⟨a, h1, .inl ⟨fun hm => ?_, fun hm => ?_, Rd.ext e hn h2⟩, h3⟩
    · have q := e.new a hm hn
      rcases h2 with h2 | ⟨o, h2⟩ <;> rw [h2] at q <;> cases q
    · have q := e.newb a hm hb hn
      rcases h2 with h2 | ⟨o, h2⟩ <;> rw [h2] at q <;> cases q
  | .ref n, _, h => by
    rw [Rep] at h ⊢
    obtain ⟨a, h1, h2⟩ := h
    exact ⟨a, h1, e.pre n a h2⟩
theorem Reps.ext (S : StOk K mg H r st) (e : Ext r H r' H') : ∀ (ds : List D) (vs : List V), Reps K H r ds vs → Reps K H' r' ds vs
  | [], _, h => by rw [Reps] at h ⊢; exact h
  | d :: ds, _, h => by
    rw [Reps] at h ⊢
    obtain ⟨y, ys, h1, h2, h3⟩ := h
    exact ⟨y, ys, h1, Rep.ext S e d y h2, Reps.ext S e ds ys h3⟩
end
theorem RepKV.ext {κ : Type} (S : StOk K mg H r st) (e : Ext r H r' H') : ∀ (kvs : List (κ × D)) (us : List (κ × V)), RepKV K H r kvs us → RepKV K H' r' kvs us
  | [], _, h => h
  | (k, d) :: rest, _, h => by
    obtain ⟨v, us', h1, h2, h3⟩ := h
    exact ⟨v, us', h1, Rep.ext S e d v h2, RepKV.ext S e rest us' h3⟩
/-! ### lists of data -/
theorem Reps.length : ∀ {ds : List D} {vs : List V}, Reps K H r ds vs → ds.length = vs.length
  | [], _, h => by rw [Reps] at h; subst h; rfl
  | d :: ds, _, h => by
    rw [Reps] at h
    obtain ⟨y, ys, rfl, _, h3⟩ := h
    rw [List.length_cons, List.length_cons, Reps.length h3]
theorem Reps.get : ∀ {ds : List D} {vs : List V} {i : Nat} {d : D}, Reps K H r ds vs → ds[i]? = some d → ∃ v, vs[i]? = some v ∧ Rep K H r d v
  | [], _, _, _, _, e => by simp at e
  | d :: ds, _, 0, _, h, e => by
    rw [Reps] at h
    obtain ⟨y, ys, rfl, h2, _⟩ := h
    simp at e; subst e
    exact ⟨y, rfl, h2⟩
  | d :: ds, _, i + 1, _, h, e => by
    rw [Reps] at h
    obtain ⟨y, ys, rfl, _, h3⟩ := h
    obtain ⟨v, q1, q2⟩ := Reps.get (i := i) h3 (by simpa using e)
    exact ⟨v, by simpa using q1, q2⟩
theorem Reps.nil : Reps K H r [] [] := by rw [Reps]
theorem Reps.cons {d : D} {v : V} {ds : List D} {vs : List V} (h : Rep K H r d v) (t : Reps K H r ds vs) : Reps K H r (d :: ds) (v :: vs) := by
  rw [Reps]; exact ⟨v, vs, rfl, h, t⟩
theorem Reps.append : ∀ {ds es : List D} {vs us : List V}, Reps K H r ds vs → Reps K H r es us → Reps K H r (ds ++ es) (vs ++ us)
  | [], _, _, _, h, t => by rw [Reps] at h; subst h; exact t
  | d :: ds, _, _, _, h, t => by
    rw [Reps] at h
    obtain ⟨y, ys, rfl, h2, h3⟩ := h
    exact Reps.cons h2 (Reps.append h3 t)
theorem Reps.set : ∀ {ds : List D} {vs : List V} {i : Nat} {d : D} {v : V}, Reps K H r ds vs → Rep K H r d v → Reps K H r (ds.set i d) (vs.set i v)
  | [], _, _, _, _, h, _ => by rw [Reps] at h; subst h; exact Reps.nil
  | e :: ds, _, 0, _, _, h, q => by
    rw [Reps] at h
    obtain ⟨y, ys, rfl, _, h3⟩ := h
    exact Reps.cons q h3
  | e :: ds, _, i + 1, _, _, h, q => by
    rw [Reps] at h
    obtain ⟨y, ys, rfl, h2, h3⟩ := h
    exact Reps.cons h2 (Reps.set h3 q)
theorem Reps.take : ∀ {ds : List D} {vs : List V} (n : Nat), Reps K H r ds vs → Reps K H r (ds.take n) (vs.take n)
  | _, _, 0, _ => Reps.nil
  | [], _, n + 1, h => by rw [Reps] at h; subst h; exact Reps.nil
  | e :: ds, _, n + 1, h => by
    rw [Reps] at h
    obtain ⟨y, ys, rfl, h2, h3⟩ := h
    exact Reps.cons h2 (Reps.take n h3)
theorem Reps.drop : ∀ {ds : List D} {vs : List V} (n : Nat), Reps K H r ds vs → Reps K H r (ds.drop n) (vs.drop n)
  | _, _, 0, h => h
  | [], _, n + 1, h => by rw [Reps] at h; subst h; exact Reps.nil
  | e :: ds, _, n + 1, h => by
    rw [Reps] at h
    obtain ⟨y, ys, rfl, h2, h3⟩ := h
    exact Reps.drop n h3

/-! ### the store changes -/
theorem ext_new {a : Addr} {o : HO} (h : H a = none) : Ext r H r (upd H a o) :=
  ⟨fun _ _ h => h, fun _ h => h, fun _ h n => absurd h n, fun _ h n => absurd h n, fun b u _ e => by rw [upd_ne (ne_of_none e h)]; exact e⟩
theorem OOk.ext (S : StOk K mg H r st) (e : Ext r H r' H') {a : Addr} {o : O} (h : OOk K mg H r a o) (k : H' a = H a) : OOk K mg H' r' a o := by
  cases o with
  | lst ds => obtain ⟨xs, h1, h2, h3⟩ := h; exact ⟨xs, k.trans h1, h2, Reps.ext S e _ _ h3⟩
  | dK l kvs =>
    cases l with
    | false => obtain ⟨us, h1, h2, h3⟩ := h; exact ⟨us, k.trans h1, h2, RepKV.ext S e _ _ h3⟩
    | true => obtain ⟨us, o, h1, h2, h3⟩ := h; exact ⟨us, o, k.trans h1, h2, RepKV.ext S e _ _ h3⟩
  | dT kvs => obtain ⟨us, h1, h2, h3⟩ := h; exact ⟨us, k.trans h1, h2, RepKV.ext S e _ _ h3⟩
  | ins c fs => obtain ⟨C, dx, us, h1, h2, h3⟩ := h; exact ⟨C, dx, us, h1, k.trans h2, RepKV.ext S e _ _ h3⟩
theorem StOk.there (S : StOk K mg H r st) {n : Nat} {a : Addr} (h : r.l[n]? = some a) : ∃ o, st[n]? = some o ∧ OOk K mg H r a o := by
  have hl : n < st.length := by
    have := (List.getElem?_eq_some_iff.mp h).1
    rw [S.len] at this; exact this
  exact ⟨st[n], List.getElem?_eq_getElem hl, S.ob n a _ h (List.getElem?_eq_getElem hl)⟩
theorem OOk.tracked {a : Addr} {o : O} (h : OOk K mg H r a o) : ∃ u, H a = some u := by
  cases o with
  | lst ds => obtain ⟨xs, h1, _⟩ := h; exact ⟨_, h1⟩
  | dK l kvs =>
    cases l with
    | false => obtain ⟨us, h1, _⟩ := h; exact ⟨_, h1⟩
    | true => obtain ⟨us, o, h1, _⟩ := h; exact ⟨_, h1⟩
  | dT kvs => obtain ⟨us, h1, _⟩ := h; exact ⟨_, h1⟩
  | ins c fs => obtain ⟨C, dx, us, _, h1, _⟩ := h; exact ⟨_, h1⟩
theorem StOk.mem (S : StOk K mg H r st) {a : Addr} (h : a ∈ r.l) : ∃ u, H a = some u := by
  obtain ⟨n, hn⟩ := List.mem_iff_getElem?.mp h
  obtain ⟨o, _, q⟩ := S.there hn
  exact q.tracked
theorem StOk.bt_keep (S : StOk K mg H r st) {H2 : Hp} {a : Addr} (ha : a ∈ r.b) (k : ∀ {o}, a ∉ r.l → H a = some o → H2 a = some o) (k2 : a ∈ r.l → H2 a = H a) : ∃ u, H2 a = some u := by
  obtain ⟨u, hu⟩ := S.bt a ha
  by_cases hm : a ∈ r.l
  · exact ⟨u, (k2 hm).trans hu⟩
  · exact ⟨u, k hm hu⟩
theorem bt_upd (S : StOk K mg H r st) {c : Addr} {o : HO} : ∀ a ∈ r.b, ∃ u, upd H c o a = some u := fun a ha => by
  obtain ⟨u, hu⟩ := S.bt a ha
  by_cases hc : a = c
  · subst hc; exact ⟨o, upd_same⟩
  · exact ⟨u, by rw [upd_ne hc]; exact hu⟩
/-- the tracked things as they were -/
theorem StOk.keep (S : StOk K mg H r st) (e : Ext r H r H') (k : ∀ a ∈ r.l, H' a = H a) : StOk K mg H' r st :=
  ⟨S.len, S.nd, fun n a o h1 h2 => (S.ob n a o h1 h2).ext S e (k a (List.mem_of_getElem? h1)), fun a ha => S.bt_keep ha (fun n => e.keep _ _ n) fun hm => k a hm, S.lb⟩
/-- something new that isn't of the store -/
theorem StOk.side (S : StOk K mg H r st) {a : Addr} {o : HO} (h : H a = none) : StOk K mg (upd H a o) r st :=
  S.keep (ext_new h) fun b hb => by
    obtain ⟨u, hu⟩ := S.mem hb
    rw [upd_ne (ne_of_none hu h)]
theorem get_append_new (r : Rg) (a : Addr) : (r.push a).l[r.l.length]? = some a := by simp [Rg.push]
theorem ext_push (S : StOk K mg H r st) {a : Addr} {o : HO} (h : H a = none) : Ext r H (r.push a) (upd H a o) := by
  refine ⟨fun n b e => ?_, fun _ h => h, fun _ h n => absurd h n, fun b hb hn => ?_, fun b u _ e => by rw [upd_ne (ne_of_none e h)]; exact e⟩
  · show (r.l ++ [a])[n]? = some b
    rw [List.getElem?_append_left (List.getElem?_eq_some_iff.mp e).1]; exact e
  · rcases List.mem_append.mp hb with q | q
    · exact absurd q hn
    · rw [List.mem_singleton.mp q]; exact h
/-- a new object of the store -/
theorem StOk.push (S : StOk K mg H r st) {a : Addr} {u : HO} {o : O} (h : H a = none) (ho : OOk K mg (upd H a u) (r.push a) a o) : StOk K mg (upd H a u) (r.push a) (st ++ [o]) := by
  have e := ext_push (o := u) S h
  refine ⟨by show (r.l ++ [a]).length = _; rw [List.length_append, List.length_append, S.len]; rfl, ?_, fun n b x h1 h2 => ?_, bt_upd S, fun b hb hc => ?_⟩
  · show (r.l ++ [a]).Nodup
    rw [List.nodup_append]
    refine ⟨S.nd, by simp, fun b hb c hc => ?_⟩
    rw [List.mem_singleton.mp hc]
    obtain ⟨v, hv⟩ := S.mem hb
    exact ne_of_none hv h
  · have h1 : (r.l ++ [a])[n]? = some b := h1
    by_cases hn : n < r.l.length
    · rw [List.getElem?_append_left hn] at h1
      rw [List.getElem?_append_left (by rw [← S.len]; exact hn)] at h2
      refine (S.ob n b x h1 h2).ext S e ?_
      obtain ⟨v, hv⟩ := S.mem (List.mem_of_getElem? h1)
      rw [upd_ne (ne_of_none hv h)]
    · have hn' : n = r.l.length := by
        have := (List.getElem?_eq_some_iff.mp h1).1
        rw [List.length_append] at this
        have h3 : [a].length = 1 := rfl
        omega
      subst hn'
      rw [show (r.l ++ [a])[r.l.length]? = some a from get_append_new r a] at h1; cases h1
      rw [S.len] at h2
      simp at h2; subst h2
      exact ho
  · rcases List.mem_append.mp hb with q | q
    · exact S.lb b q hc
    · rw [List.mem_singleton.mp q] at hc
      obtain ⟨v, hv⟩ := S.bt a hc
      rw [h] at hv; cases hv
theorem nodup_at {l : List Addr} (h : l.Nodup) {n m : Nat} {a : Addr} (h1 : l[n]? = some a) (h2 : l[m]? = some a) : n = m := by
  obtain ⟨q1, e1⟩ := List.getElem?_eq_some_iff.mp h1
  obtain ⟨q2, e2⟩ := List.getElem?_eq_some_iff.mp h2
  exact (List.getElem_inj h).mp (e1.trans e2.symm)
theorem ext_write {n : Nat} {a : Addr} {u : HO} (h : r.l[n]? = some a) : Ext r H r (upd H a u) :=
  ⟨fun _ _ h => h, fun _ h => h, fun _ h n => absurd h n, fun _ h n => absurd h n, fun b v hb e => by
    rw [upd_ne (fun q => hb (by rw [q]; exact List.mem_of_getElem? h))]; exact e⟩
/-- an object of the store is written -/
theorem StOk.write (S : StOk K mg H r st) {n : Nat} {a : Addr} {u : HO} {o : O} (h : r.l[n]? = some a) (ho : OOk K mg (upd H a u) r a o) : StOk K mg (upd H a u) r (st.set n o) := by
  refine ⟨by rw [List.length_set]; exact S.len, S.nd, fun m b x h1 h2 => ?_, bt_upd S, S.lb⟩
  by_cases hm : m = n
  · subst hm
    rw [h] at h1; cases h1
    have hl : m < st.length := by
      have := (List.getElem?_eq_some_iff.mp h).1
      rw [S.len] at this; exact this
    rw [List.getElem?_set_self hl] at h2; cases h2
    exact ho
  · rw [List.getElem?_set_ne (Ne.symm hm)] at h2
    refine (S.ob m b x h1 h2).ext S (ext_write h) ?_
    rw [upd_ne]
    intro q; subst q
    exact hm (nodup_at S.nd h1 h)
end

section
variable {K : PySem.W.Frag} {mg : Str → Option Value} {H : Hp} {r : Rg} {st : Sto}
def Rg.ban (r : Rg) (a : Addr) : Rg := ⟨r.l, a :: r.b⟩
/- a list, about which nothing speaks, changes -/
mutual
theorem Rep.hid {a : Addr} {xs ys : List V} (h : H a = some (.lst xs)) : ∀ (d : D) (v : V), Rep K H (r.ban a) d v → Rep K (upd H a (.lst ys)) (r.ban a) d v
  | .non, _, q => by rw [Rep] at q ⊢; exact q
  | .bl _, _, q => by rw [Rep] at q ⊢; exact q
  | .int _, _, q => by rw [Rep] at q ⊢; exact q
  | .str _, _, q => by rw [Rep] at q ⊢; exact q
  | .tup ds, _, q => by
    rw [Rep] at q ⊢
    obtain ⟨c, zs, h1, h2, h3, h4⟩ := q
    refine ⟨c, zs, h1, ?_, h3, Reps.hid h ds zs h4⟩
    rcases h2 with h2 | h2
    · left
      rcases h2 with h2 | ⟨o, h2⟩
      · exact .inl (by rw [upd_ne (ne_of h2 h (fun e => nomatch e))]; exact h2)
      · exact .inr ⟨o, by rw [upd_ne (ne_of h2 h (fun e => nomatch e))]; exact h2⟩
    · exact .inr h2
  | .lst ds, _, q => by
    rw [Rep] at q ⊢
    obtain ⟨c, zs, h1, hn, hb, h2, h3, h4⟩ := q
    have hc : c ≠ a := fun e => hb (by rw [e]; exact List.mem_cons_self)
    exact ⟨c, zs, h1, hn, hb, by rw [upd_ne hc]; exact h2, h3, Reps.hid h ds zs h4⟩
  | .scr ns, _, q => by
    rw [Rep] at q ⊢
    obtain ⟨c, h1, ⟨hn, hb, h2⟩ | hk, h3⟩ := q
    case inr => exact ⟨c, h1, .inr hk, h3⟩
    have hc : c ≠ a := fun e => hb (by rw [e]; exact List.mem_cons_self)
    refine ⟨c, h1, .inl ⟨hn, hb, ?_⟩, h3⟩
    rcases h2 with h2 | ⟨o, h2⟩
    · exact .inl (by rw [upd_ne hc]; exact h2)
    · exact .inr ⟨o, by rw [upd_ne hc]; exact h2⟩
  | .ref n, _, q => by
    rw [Rep] at q ⊢; exact q
theorem Reps.hid {a : Addr} {xs ys : List V} (h : H a = some (.lst xs)) : ∀ (ds : List D) (vs : List V), Reps K H (r.ban a) ds vs → Reps K (upd H a (.lst ys)) (r.ban a) ds vs
  | [], _, q => by rw [Reps] at q ⊢; exact q
  | d :: ds, _, q => by
    rw [Reps] at q ⊢
    obtain ⟨y, ys, h1, h2, h3⟩ := q
    exact ⟨y, ys, h1, Rep.hid h d y h2, Reps.hid h ds ys h3⟩
end
theorem RepKV.hid {κ : Type} {a : Addr} {xs ys : List V} (h : H a = some (.lst xs)) : ∀ (ds : List (κ × D)) (vs : List (κ × V)), RepKV K H (r.ban a) ds vs → RepKV K (upd H a (.lst ys)) (r.ban a) ds vs
  | [], _, q => q
  | (k, d) :: ds, _, q => by
    obtain ⟨v, us, h1, h2, h3⟩ := q
    exact ⟨v, us, h1, Rep.hid h d v h2, RepKV.hid h ds us h3⟩
theorem OOk.hid {a b : Addr} {xs ys : List V} {o : O} (h : H a = some (.lst xs)) (hb : b ≠ a) (q : OOk K mg H (r.ban a) b o) : OOk K mg (upd H a (.lst ys)) (r.ban a) b o := by
  cases o with
  | lst ds => obtain ⟨xs, h1, h2, h3⟩ := q; exact ⟨xs, by rw [upd_ne hb]; exact h1, h2, Reps.hid h _ _ h3⟩
  | dK l kvs =>
    cases l with
    | false => obtain ⟨us, h1, h2, h3⟩ := q; exact ⟨us, by rw [upd_ne hb]; exact h1, h2, RepKV.hid h _ _ h3⟩
    | true => obtain ⟨us, o, h1, h2, h3⟩ := q; exact ⟨us, o, by rw [upd_ne hb]; exact h1, h2, RepKV.hid h _ _ h3⟩
  | dT kvs => obtain ⟨us, h1, h2, h3⟩ := q; exact ⟨us, by rw [upd_ne hb]; exact h1, h2, RepKV.hid h _ _ h3⟩
  | ins c fs => obtain ⟨C, dx, us, h1, h2, h3⟩ := q; exact ⟨C, dx, us, h1, by rw [upd_ne hb]; exact h2, RepKV.hid h _ _ h3⟩
theorem StOk.hid {a : Addr} {xs ys : List V} (S : StOk K mg H (r.ban a) st) (hn : a ∉ r.l) (h : H a = some (.lst xs)) : StOk K mg (upd H a (.lst ys)) (r.ban a) st :=
  ⟨S.len, S.nd, fun n b o h1 h2 => (S.ob n b o h1 h2).hid h fun e => hn (by rw [← e]; exact List.mem_of_getElem? h1), bt_upd S, S.lb⟩
/- nothing speaks of what is not there yet -/
mutual
theorem Rep.toBan {a : Addr} {u : HO} (h : H a = none) : ∀ (d : D) (v : V), Rep K H r d v → Rep K (upd H a u) (r.ban a) d v
  | .non, _, q => by rw [Rep] at q ⊢; exact q
  | .bl _, _, q => by rw [Rep] at q ⊢; exact q
  | .int _, _, q => by rw [Rep] at q ⊢; exact q
  | .str _, _, q => by rw [Rep] at q ⊢; exact q
  | .tup ds, _, q => by
    rw [Rep] at q ⊢
    obtain ⟨c, zs, h1, h2, h3, h4⟩ := q
    refine ⟨c, zs, h1, ?_, h3, Reps.toBan h ds zs h4⟩
    rcases h2 with h2 | h2
    · left
      rcases h2 with h2 | ⟨o, h2⟩
      · exact .inl (by rw [upd_ne (ne_of_none h2 h)]; exact h2)
      · exact .inr ⟨o, by rw [upd_ne (ne_of_none h2 h)]; exact h2⟩
    · exact .inr h2
  | .lst ds, _, q => by
    rw [Rep] at q ⊢
    obtain ⟨c, zs, h1, hn, hb, h2, h3, h4⟩ := q
    have hc := ne_of_none h2 h
    refine ⟨c, zs, h1, hn, fun e => ?_, by rw [upd_ne hc]; exact h2, h3, Reps.toBan h ds zs h4⟩
    rcases List.mem_cons.mp e with e | e
    · exact hc e
    · exact hb e
  | .scr ns, _, q => by
    rw [Rep] at q ⊢
    obtain ⟨c, h1, ⟨hn, hb, h2⟩ | hk, h3⟩ := q
    case inr => exact ⟨c, h1, .inr hk, h3⟩
    have hc : c ≠ a := by rcases h2 with h2 | ⟨o, h2⟩ <;> exact ne_of_none h2 h
    refine ⟨c, h1, .inl ⟨hn, fun e => ?_, ?_⟩, h3⟩
    · rcases List.mem_cons.mp e with e | e
      · exact hc e
      · exact hb e
    · rcases h2 with h2 | ⟨o, h2⟩
      · exact .inl (by rw [upd_ne hc]; exact h2)
      · exact .inr ⟨o, by rw [upd_ne hc]; exact h2⟩
  | .ref n, _, q => by rw [Rep] at q ⊢; exact q
theorem Reps.toBan {a : Addr} {u : HO} (h : H a = none) : ∀ (ds : List D) (vs : List V), Reps K H r ds vs → Reps K (upd H a u) (r.ban a) ds vs
  | [], _, q => by rw [Reps] at q ⊢; exact q
  | d :: ds, _, q => by
    rw [Reps] at q ⊢
    obtain ⟨y, ys, h1, h2, h3⟩ := q
    exact ⟨y, ys, h1, Rep.toBan h d y h2, Reps.toBan h ds ys h3⟩
end
/-- another r: no fewer things lie where they lay, no more are banned or of the store that were free -/
structure Mv (r r' : Rg) : Prop where
  pre : ∀ (n : Nat) (a : Addr), r.l[n]? = some a → r'.l[n]? = some a
  out : ∀ a, a ∉ r.l → a ∉ r.b → a ∉ r'.l ∧ a ∉ r'.b
mutual
theorem Rep.move {r' : Rg} (hs : Mv r r') : ∀ (d : D) (v : V), Rep K H r d v → Rep K H r' d v
  | .non, _, q => by rw [Rep] at q ⊢; exact q
  | .bl _, _, q => by rw [Rep] at q ⊢; exact q
  | .int _, _, q => by rw [Rep] at q ⊢; exact q
  | .str _, _, q => by rw [Rep] at q ⊢; exact q
  | .tup ds, _, q => by
    rw [Rep] at q ⊢
    obtain ⟨c, zs, h1, h2, h3, h4⟩ := q
    exact ⟨c, zs, h1, h2, h3, Reps.move hs ds zs h4⟩
  | .lst ds, _, q => by
    rw [Rep] at q ⊢
    obtain ⟨c, zs, h1, hn, hb, h2, h3, h4⟩ := q
    exact ⟨c, zs, h1, (hs.out c hn hb).1, (hs.out c hn hb).2, h2, h3, Reps.move hs ds zs h4⟩
  | .scr ns, _, q => by
    rw [Rep] at q ⊢
    obtain ⟨c, h1, ⟨hn, hb, h2⟩ | hk, h3⟩ := q
    case inr => exact ⟨c, h1, .inr hk, h3⟩
    exact ⟨c, h1, .inl ⟨(hs.out c hn hb).1, (hs.out c hn hb).2, h2⟩, h3⟩
  | .ref n, _, q => by
    rw [Rep] at q ⊢
    obtain ⟨a, h1, h2⟩ := q
    exact ⟨a, h1, hs.pre n a h2⟩
theorem Reps.move {r' : Rg} (hs : Mv r r') : ∀ (ds : List D) (vs : List V), Reps K H r ds vs → Reps K H r' ds vs
  | [], _, q => by rw [Reps] at q ⊢; exact q
  | d :: ds, _, q => by
    rw [Reps] at q ⊢
    obtain ⟨y, ys, h1, h2, h3⟩ := q
    exact ⟨y, ys, h1, Rep.move hs d y h2, Reps.move hs ds ys h3⟩
end
theorem RepKV.move {κ : Type} {r' : Rg} (hs : Mv r r') : ∀ (ds : List (κ × D)) (vs : List (κ × V)), RepKV K H r ds vs → RepKV K H r' ds vs
  | [], _, q => q
  | (k, d) :: ds, _, q => by
    obtain ⟨v, us, h1, h2, h3⟩ := q
    exact ⟨v, us, h1, Rep.move hs d v h2, RepKV.move hs ds us h3⟩
theorem OOk.move {b : Addr} {r' : Rg} (hs : Mv r r') {o : O} (q : OOk K mg H r b o) : OOk K mg H r' b o := by
  cases o with
  | lst ds => obtain ⟨xs, h1, h2, h3⟩ := q; exact ⟨xs, h1, h2, Reps.move hs _ _ h3⟩
  | dK l kvs =>
    cases l with
    | false => obtain ⟨us, h1, h2, h3⟩ := q; exact ⟨us, h1, h2, RepKV.move hs _ _ h3⟩
    | true => obtain ⟨us, o, h1, h2, h3⟩ := q; exact ⟨us, o, h1, h2, RepKV.move hs _ _ h3⟩
  | dT kvs => obtain ⟨us, h1, h2, h3⟩ := q; exact ⟨us, h1, h2, RepKV.move hs _ _ h3⟩
  | ins c fs => obtain ⟨C, dx, us, h1, h2, h3⟩ := q; exact ⟨C, dx, us, h1, h2, RepKV.move hs _ _ h3⟩
theorem mv_less {b' : List Addr} (hs : ∀ a ∈ b', a ∈ r.b) : Mv r ⟨r.l, b'⟩ := ⟨fun _ _ h => h, fun a h1 h2 => ⟨h1, fun h => h2 (hs a h)⟩⟩
/-- what was banned is of the store now -/
theorem mv_take {b' : List Addr} {a : Addr} (ha : a ∈ r.b) (hs : ∀ a ∈ b', a ∈ r.b) : Mv r ⟨r.l ++ [a], b'⟩ :=
  ⟨fun n b e => by
    show (r.l ++ [a])[n]? = some b
    rw [List.getElem?_append_left (List.getElem?_eq_some_iff.mp e).1]; exact e, fun c h1 h2 => ⟨fun h => by
    rcases List.mem_append.mp h with h | h
    · exact h1 h
    · rw [List.mem_singleton.mp h] at h2; exact h2 ha, fun h => h2 (hs c h)⟩⟩
theorem RepKV.toBan {κ : Type} {a : Addr} {u : HO} (h : H a = none) : ∀ (ds : List (κ × D)) (vs : List (κ × V)), RepKV K H r ds vs → RepKV K (upd H a u) (r.ban a) ds vs
  | [], _, q => q
  | (k, d) :: ds, _, q => by
    obtain ⟨v, us, h1, h2, h3⟩ := q
    exact ⟨v, us, h1, Rep.toBan h d v h2, RepKV.toBan h ds us h3⟩
theorem OOk.toBan {a b : Addr} {w : HO} {o : O} (h : H a = none) (q : OOk K mg H r b o) : OOk K mg (upd H a w) (r.ban a) b o := by
  obtain ⟨x, hx⟩ := q.tracked
  have hb : upd H a w b = H b := upd_ne (ne_of_none hx h)
  cases o with
  | lst ds => obtain ⟨xs, h1, h2, h3⟩ := q; exact ⟨xs, hb.trans h1, h2, Reps.toBan h _ _ h3⟩
  | dK l kvs =>
    cases l with
    | false => obtain ⟨us, h1, h2, h3⟩ := q; exact ⟨us, hb.trans h1, h2, RepKV.toBan h _ _ h3⟩
    | true => obtain ⟨us, o, h1, h2, h3⟩ := q; exact ⟨us, o, hb.trans h1, h2, RepKV.toBan h _ _ h3⟩
  | dT kvs => obtain ⟨us, h1, h2, h3⟩ := q; exact ⟨us, hb.trans h1, h2, RepKV.toBan h _ _ h3⟩
  | ins c fs => obtain ⟨C, dx, us, h1, h2, h3⟩ := q; exact ⟨C, dx, us, h1, hb.trans h2, RepKV.toBan h _ _ h3⟩
theorem StOk.toBan {a : Addr} {w : HO} (S : StOk K mg H r st) (h : H a = none) : StOk K mg (upd H a w) (r.ban a) st :=
  ⟨S.len, S.nd, fun n b o h1 h2 => (S.ob n b o h1 h2).toBan h, fun b hb => by
    rcases List.mem_cons.mp hb with e | e
    · rw [e]; exact ⟨w, upd_same⟩
    · exact bt_upd S b e, fun b hb hc => by
    rcases List.mem_cons.mp hc with e | e
    · obtain ⟨u, hu⟩ := S.mem hb
      rw [e, h] at hu; cases hu
    · exact S.lb b hb e⟩
theorem StOk.less {b' : List Addr} (hs : ∀ a ∈ b', a ∈ r.b) (S : StOk K mg H r st) : StOk K mg H ⟨r.l, b'⟩ st :=
  ⟨S.len, S.nd, fun n b o h1 h2 => (S.ob n b o h1 h2).move (mv_less hs), fun b hb => S.bt b (hs b hb), fun b hb hc => S.lb b hb (hs b hc)⟩
theorem ext_ban {a : Addr} {o : HO} (h : H a = none) : Ext r H (r.ban a) (upd H a o) :=
  ⟨fun _ _ h => h, fun _ h => List.mem_cons_of_mem _ h, fun b hb hn _ => by
    rcases List.mem_cons.mp hb with e | e
    · rw [e]; exact h
    · exact absurd e hn, fun _ h n => absurd h n, fun b u _ e => by rw [upd_ne (ne_of_none e h)]; exact e⟩
theorem Ext.hid {r1 : Rg} {H1 : Hp} {a : Addr} {o : HO} (e : Ext r1 H1 r H) (h : H1 a = none) : Ext r1 H1 r (upd H a o) :=
  ⟨e.pre, e.bsub, e.newb, e.new, fun b u hb hu => by rw [upd_ne (ne_of_none hu h)]; exact e.keep b u hb hu⟩
end
end LB
/- ===== LRule ===== -/
set_option Elab.async false
set_option linter.all false
set_option maxRecDepth 100000
set_option autoImplicit false
namespace LB
open PySem PySem.Spec PyProof.Rows L2

abbrev Ev := List (Option D)
abbrev EM := Ev → Sto → Res D
abbrev AM := Ev → Sto → Res (List D)
abbrev BM := Ev → Sto → Res Bool
inductive Out where
  | nx (e : Ev) | rt (d : D) | bk (e : Ev) | ct (e : Ev)
abbrev SM := Ev → Sto → Res Out

structure Abs (K : PySem.W.Frag) (mg : Str → Option Value) (H : Hp) (r : Rg) (σ : L2.St) (env : Ev) (st : Sto) : Prop where
  so : StOk K mg H r st
  len : env.length = σ.length
  sl : ∀ (i : Nat) (d : D), env[i]? = some (some d) → ∃ v, σ[i]? = some (some v) ∧ Rep K H r d v

def RepX (K : PySem.W.Frag) (mg : Str → Option Value) (H : Hp) (r : Rg) (x : Ex) (C : Value) (od : Option Addr) : Prop :=
  ∃ c, mg x.cls = some (.ref c) ∧ C = .ref c ∧ ((x.fs = [] ∧ od = none) ∨ ∃ d us, od = some d ∧ d ∉ r.l ∧ d ∉ r.b ∧ H d = some (.xd us) ∧ RepKV K H r x.fs us)

/-- what is wanted behind a result, from (H, r) on -/
def Post {α β : Type} (rel : Hp → Rg → α → β → Prop) (K : PySem.W.Frag) (mg : Str → Option Value) (E : XK) (H : Hp) (r : Rg) (res : Res α) (Q : β → Hp → Prop) : Prop :=
  match res with
  | .ok d st' => ∀ v H' r', Ext r H r' H' → StOk K mg H' r' st' → rel H' r' d v → Q v H'
  | .ex x st' => ∀ C od H' r', Ext r H r' H' → StOk K mg H' r' st' → RepX K mg H' r' x C od → E C od H'
  | .stuck => False

abbrev relD (K : PySem.W.Frag) : Hp → Rg → D → V → Prop := fun H r d v => Rep K H r d v
abbrev relDs (K : PySem.W.Frag) : Hp → Rg → List D → List V → Prop := fun H r d v => Reps K H r d v
abbrev relB : Hp → Rg → Bool → Bool → Prop := fun _ _ a b => b = a

section
variable {α β γ δ : Type} {rel : Hp → Rg → α → β → Prop} {rel2 : Hp → Rg → γ → δ → Prop} {K : PySem.W.Frag} {mg : Str → Option Value} {E : XK} {H H1 : Hp} {r r1 : Rg} {Q : δ → Hp → Prop}
theorem Post.later {res : Res γ} (e : Ext r H r1 H1) (h : Post rel2 K mg E H r res Q) : Post rel2 K mg E H1 r1 res Q := by
  cases res with
  | ok d st => exact fun v H' r' e' S R => h v H' r' (e.trans e') S R
  | ex x st => exact fun C od H' r' e' S R => h C od H' r' (e.trans e') S R
  | stuck => exact h
theorem post_bind {res : Res α} {f : α → Sto → Res γ} {Q1 : β → Hp → Prop} (h : Post rel2 K mg E H r (res.bind f) Q)
    (k : ∀ d st1 v H1 r1, Ext r H r1 H1 → StOk K mg H1 r1 st1 → rel H1 r1 d v → Post rel2 K mg E H1 r1 (f d st1) Q → Q1 v H1) : Post rel K mg E H r res Q1 := by
  cases res with
  | ok d st => exact fun v H' r' e S R => k d st v H' r' e S R (Post.later e h)
  | ex x st => exact h
  | stuck => exact h
/-- a value that is there -/
theorem Post.here {d : γ} {st : Sto} (h : Post rel2 K mg E H r (.ok d st) Q) {v : δ} (S : StOk K mg H r st) (R : rel2 H r d v) : Q v H := h v H r (Ext.refl r H) S R
end

section
variable {K : PySem.W.Frag} {mg : Str → Option Value} {H H' : Hp} {r r' : Rg} {σ : L2.St} {env : Ev} {st st' : Sto}
theorem Abs.later (A : Abs K mg H r σ env st) (e : Ext r H r' H') (S : StOk K mg H' r' st') : Abs K mg H' r' σ env st' :=
  ⟨S, A.len, fun i d h => let ⟨v, h1, h2⟩ := A.sl i d h; ⟨v, h1, Rep.ext A.so e d v h2⟩⟩
theorem Abs.set (A : Abs K mg H r σ env st) {i : Nat} {d : D} {v : V} (h : Rep K H r d v) : Abs K mg H r (σ.set i (some v)) (env.set i (some d)) st := by
  refine ⟨A.so, by rw [List.length_set, List.length_set]; exact A.len, fun j x hx => ?_⟩
  by_cases hj : i = j
  · subst hj
    by_cases hl : i < env.length
    · rw [List.getElem?_set_self hl] at hx; cases hx
      exact ⟨v, List.getElem?_set_self (by rw [← A.len]; exact hl), h⟩
    · rw [List.getElem?_eq_none (by rw [List.length_set]; omega)] at hx; cases hx
  · rw [List.getElem?_set_ne hj] at hx ⊢
    exact A.sl j x hx
end

/-! ## the judgements -/
def rdE (X : Cx) (E : XK) (m : EM) : TE := fun σ H Q => ∃ r env st, Abs X.K X.mg H r σ env st ∧ Post (relD X.K) X.K X.mg E H r (m env st) Q
def rdA (X : Cx) (E : XK) (m : AM) : TA := fun σ H Q => ∃ r env st, Abs X.K X.mg H r σ env st ∧ Post (relDs X.K) X.K X.mg E H r (m env st) Q
def rdT (X : Cx) (E : XK) (m : BM) : TT := fun σ H Q => ∃ r env st, Abs X.K X.mg H r σ env st ∧ Post relB X.K X.mg E H r (m env st) Q
/-- what is wanted behind a statement's result -/
def PostS (K : PySem.W.Frag) (mg : Str → Option Value) (E : XK) (H : Hp) (r : Rg) (res : Res Out) (D : Ends) : Prop :=
  match res with
  | .ok (.nx env') st' => ∀ σ' H' r', Ext r H r' H' → Abs K mg H' r' σ' env' st' → D.nx σ' H'
  | .ok (.rt d) st' => ∀ v H' r', Ext r H r' H' → StOk K mg H' r' st' → Rep K H' r' d v → D.rt v H'
  | .ok (.bk env') st' => ∀ σ' H' r', Ext r H r' H' → Abs K mg H' r' σ' env' st' → D.bk σ' H'
  | .ok (.ct env') st' => ∀ σ' H' r', Ext r H r' H' → Abs K mg H' r' σ' env' st' → D.ct σ' H'
  | .ex x st' => ∀ C od H' r', Ext r H r' H' → StOk K mg H' r' st' → RepX K mg H' r' x C od → E C od H'
  | .stuck => False
def rdS (X : Cx) (E : XK) (m : SM) : TS := fun D σ H => ∃ r env st, Abs X.K X.mg H r σ env st ∧ PostS X.K X.mg E H r (m env st) D

structure RE (X : Cx) (E : XK) (e : Expr) (m : EM) : Prop where
  p : PE X e (rdE X E m)
structure RA (X : Cx) (E : XK) (es : List Expr) (m : AM) : Prop where
  p : PA X es (rdA X E m)
structure RT (X : Cx) (E : XK) (e : Expr) (m : BM) : Prop where
  p : PT X e (rdT X E m)
structure RW (X : Cx) (E : XK) (e : Expr) (m : BM) : Prop where
  p : PW X e (rdT X E m)
structure RS (X : Cx) (E : XK) (s : Stmt) (m : SM) : Prop where
  p : PS X s (rdS X E m)
structure RB (X : Cx) (E : XK) (s : List Stmt) (m : SM) : Prop where
  p : PSs X s (rdS X E m)

section
variable {X : Cx} {E : XK}
theorem pe_weak {e : Expr} {t t' : TE} (h : PE X e t) (w : ∀ σ H Q, t' σ H Q → t σ H Q) : PE X e t' := ⟨fun pins s σ H Q I q => h.run pins s σ H Q I (w _ _ _ q)⟩
theorem pa_weak {e : List Expr} {t t' : TA} (h : PA X e t) (w : ∀ σ H Q, t' σ H Q → t σ H Q) : PA X e t' := ⟨fun pos pins s σ H Q I q => h.run pos pins s σ H Q I (w _ _ _ q)⟩
theorem pt_weak {e : Expr} {t t' : TT} (h : PT X e t) (w : ∀ σ H Q, t' σ H Q → t σ H Q) : PT X e t' := ⟨fun pins s σ H Q I q => h.run pins s σ H Q I (w _ _ _ q)⟩
theorem pw_weak {e : Expr} {t t' : TT} (h : PW X e t) (w : ∀ σ H Q, t' σ H Q → t σ H Q) : PW X e t' := ⟨fun wh pins s σ H Q I q => h.run wh pins s σ H Q I (w _ _ _ q)⟩
theorem ps_weak {e : Stmt} {t t' : TS} (h : PS X e t) (w : ∀ D σ H, t' D σ H → t D σ H) : PS X e t' := ⟨fun pins s σ H D I q => h.run pins s σ H D I (w _ _ _ q)⟩
theorem pss_weak {e : List Stmt} {t t' : TS} (h : PSs X e t) (w : ∀ D σ H, t' D σ H → t D σ H) : PSs X e t' := ⟨fun pins s σ H D I q => h.run pins s σ H D I (w _ _ _ q)⟩

/-! ## names, constants -/
def cVar (i : Nat) : EM := fun env st => match env[i]? with
  | some (some d) => .ok d st
  | _ => .stuck
def cC (d : D) : EM := fun _ st => .ok d st
theorem re_pe {e : Expr} {m : EM} {t : TE} (h : PE X e t) (w : ∀ σ H Q r env st, Abs X.K X.mg H r σ env st → Post (relD X.K) X.K X.mg E H r (m env st) Q → t σ H Q) : RE X E e m :=
  ⟨pe_weak h fun σ H Q ⟨r, env, st, A, P⟩ => w σ H Q r env st A P⟩
theorem re_var (i : Nat) {x : Str} {pos : Pos} (hN : X.N[i]? = some x := by rfl) (hv : Vis X.env.scope x := by first | exact Or.inl rfl | exact Or.inr (Or.inl rfl) | exact Or.inr (Or.inr rfl))
    (hd : (x == ("__debug__" : Str)) = false := by decide) (hcd : (x == ("__classdict__" : Str)) = false := by decide) : RE X E (.Name x pos) (cVar i) := by
  refine re_pe (pe_var hN hv hd hcd) fun σ H Q r env st A P => ?_
  unfold cVar at P
  split at P
  · rename_i d he
    obtain ⟨v, h1, h2⟩ := A.sl i d he
    exact ⟨v, h1, P.here A.so h2⟩
  · exact P.elim
theorem re_con {e : Expr} {d : D} {v : V} (h : PE X e (tC v)) (hr : ∀ H r, Rep X.K H r d v) : RE X E e (cC d) := by
  refine re_pe h fun σ H Q r env st A P => ?_
  exact P.here (v := v) A.so (hr H r)
theorem re_int {i j pos} : RE X E (.Constant (.int i) j pos) (cC (.int i)) := re_con pe_int fun _ _ => by rw [Rep]
theorem re_bl {b j pos} : RE X E (.Constant (.bool b) j pos) (cC (.bl b)) := re_con pe_bl fun _ _ => by rw [Rep]
theorem re_non {j pos} : RE X E (.Constant .none j pos) (cC .non) := re_con pe_non fun _ _ => by rw [Rep]
theorem re_str {x j pos} : RE X E (.Constant (.str x) j pos) (cC (.str x)) := re_con pe_str fun _ _ => by rw [Rep]
theorem re_gint {x : Str} {i : Int} {t : Tok} {pos : Pos} (hg : Gl X x) (hm : X.mg x = some (.int i t)) (hd : (x == ("__debug__" : Str)) = false := by decide) : RE X E (.Name x pos) (cC (.int i)) :=
  re_con (v := .int i) (pe_glob hg hm ⟨t, rfl⟩ hd) fun _ _ => by rw [Rep]
theorem re_gstr {x s : Str} {t : Tok} {pos : Pos} (hg : Gl X x) (hm : X.mg x = some (.str s t)) (hd : (x == ("__debug__" : Str)) = false := by decide) : RE X E (.Name x pos) (cC (.str s)) :=
  re_con (v := .str s) (pe_glob hg hm ⟨t, rfl⟩ hd) fun _ _ => by rw [Rep]
/-- a tuple of the written part -/
theorem re_gtup {x : Str} {a : Addr} {ds : List D} {xs : List V} {pos : Pos} (hg : Gl X x) (hm : X.mg x = some (.ref a)) (ht : ∀ H, SqT X.K H a xs) (hl : xs.length ≤ sizeLine) (hr : ∀ H r, Reps X.K H r ds xs) (hd : (x == ("__debug__" : Str)) = false := by decide) :
    RE X E (.Name x pos) (cC (.tup ds)) :=
  re_con (pe_glob (v := .ref a) hg hm rfl hd) fun H r => by rw [Rep]; exact ⟨a, xs, rfl, ht H, hl, hr H r⟩

/-! ## operations by values -/
abbrev VF1 := D → Sto → Res D
abbrev VF2 := D → D → Sto → Res D
def c1 (f : VF1) (a : EM) : EM := fun env st => (a env st).bind fun x st1 => f x st1
def c2 (f : VF2) (a b : EM) : EM := fun env st => (a env st).bind fun x st1 => (b env st1).bind fun y st2 => f x y st2
def V1 (X : Cx) (E : XK) (rel : V → Hp → VK → Prop) (f : VF1) : Prop :=
  ∀ H r st x d Q, StOk X.K X.mg H r st → Rep X.K H r d x → Post (relD X.K) X.K X.mg E H r (f d st) Q → rel x H Q
def V2 (X : Cx) (E : XK) (rel : R2) (f : VF2) : Prop :=
  ∀ H r st x y d e Q, StOk X.K X.mg H r st → Rep X.K H r d x → Rep X.K H r e y → Post (relD X.K) X.K X.mg E H r (f d e st) Q → rel x y H Q
theorem op2 {a b : Expr} {ma mb : EM} {rel : R2} {f : VF2} (hv : V2 X E rel f) {σ : L2.St} {H : Hp} {Q : VK} (h : rdE X E (c2 f ma mb) σ H Q) : tOp rel (rdE X E ma) (rdE X E mb) σ H Q := by
  obtain ⟨r, env, st, A, P⟩ := h
  refine ⟨r, env, st, A, post_bind P fun d st1 v H1 r1 e1 S1 R1 P1 => ?_⟩
  refine ⟨r1, env, st1, A.later e1 S1, post_bind P1 fun e st2 w H2 r2 e2 S2 R2 P2 => ?_⟩
  exact hv H2 r2 st2 v w d e Q S2 (Rep.ext S1 e2 _ _ R1) R2 P2
theorem re_op {op : Operator} {a b : Expr} {ma mb : EM} {rel : R2} {f : VF2} {pos : Pos} (ho : OpR X (binaryOp op) rel) (hv : V2 X E rel f) (ha : RE X E a ma) (hb : RE X E b mb) : RE X E (.BinOp a op b pos) (c2 f ma mb) :=
  ⟨pe_weak (pe_op ho ha.p hb.p) fun σ H Q h => op2 (a := a) (b := b) hv h⟩
theorem re_cmp {op : CmpOp} {a b : Expr} {ma mb : EM} {rel : R2} {f : VF2} {pos : Pos} (ho : OpR X (compareOp op) rel) (hv : V2 X E rel f) (hm : behindInMarks op b = false) (ha : RE X E a ma) (hb : RE X E b mb) : RE X E (.Compare a [op] [b] pos) (c2 f ma mb) :=
  ⟨pe_weak (pe_cmpR ho ha.p hb.p hm) fun σ H Q h => op2 (a := a) (b := b) hv h⟩
theorem re_ix {a b : Expr} {ma mb : EM} {rel : R2} {f : VF2} {pos : Pos} (ho : IxR X rel) (hv : V2 X E rel f) (hs : PlainIx b) (ha : RE X E a ma) (hb : RE X E b mb) : RE X E (.Subscript a b pos) (c2 f ma mb) :=
  ⟨pe_weak (pe_ix ho ha.p hb.p hs) fun σ H Q h => op2 (a := a) (b := b) hv h⟩
theorem re_un {op : UnaryOp} {a : Expr} {ma : EM} {rel : V → Hp → VK → Prop} {f : VF1} {pos : Pos} (ho : UnR X (unaryOp op) rel) (hv : V1 X E rel f) (ha : RE X E a ma) : RE X E (.UnaryOp op a pos) (c1 f ma) :=
  ⟨pe_weak (pe_un ho ha.p) fun σ H Q ⟨r, env, st, A, P⟩ => ⟨r, env, st, A, post_bind P fun d st1 v H1 r1 e1 S1 R1 P1 => hv H1 r1 st1 v d Q S1 R1 P1⟩⟩
theorem V2.or1 {rel rel' : R2} {f : VF2} (h : V2 X E rel f) : V2 X E (fun x y H Q => rel x y H Q ∨ rel' x y H Q) f := fun H r st x y d e Q S R1 R2 P => .inl (h H r st x y d e Q S R1 R2 P)

/-- a chain a op b op' c -/
def cChain (f g : VF2) (a b c : EM) : EM := fun env st => (a env st).bind fun x st1 => (b env st1).bind fun y st2 => (f x y st2).bind fun z st3 => match z with
  | .bl true => (c env st3).bind fun w st4 => g y w st4
  | .bl false => .ok (.bl false) st3
  | _ => .stuck
theorem re_chain {op op' : CmpOp} {a b c : Expr} {ma mb mc : EM} {rel rel' : R2} {f g : VF2} {pos : Pos} (ho : OpR X (compareOp op) rel) (ho' : OpR X (compareOp op') rel') (hv : V2 X E rel f) (hv' : V2 X E rel' g)
    (ha : RE X E a ma) (hb : RE X E b mb) (hc : RE X E c mc) (hm : lastMarks [op, op'] [b, c] = false := by with_unfolding_all rfl) : RE X E (.Compare a [op, op'] [b, c] pos) (cChain f g ma mb mc) := by
  refine re_pe (pe_chain ho ho' ha.p hb.p hc.p hm) fun σ H Q r env st A P => ?_
  refine ⟨r, env, st, A, post_bind P fun d st1 v H1 r1 e1 S1 R1 P1 => ?_⟩
  refine ⟨r1, env, st1, A.later e1 S1, post_bind P1 fun e st2 w H2 r2 e2 S2 R2 P2 => ?_⟩
  have R1' := Rep.ext S1 e2 _ _ R1
  refine hv H2 r2 st2 v w d e _ S2 R1' R2 (post_bind P2 fun z st3 u H3 r3 e3 S3 R3 P3 => ?_)
  split at P3
  · refine ⟨true, rep_bl.mp R3, ?_⟩
    rw [if_pos rfl]
    refine ⟨r3, env, st3, ((A.later e1 S1).later e2 S2).later e3 S3, post_bind P3 fun e' st4 w' H4 r4 e4 S4 R4 P4 => ?_⟩
    exact hv' H4 r4 st4 w w' e e' Q S4 (Rep.ext S2 (e3.trans e4) _ _ R2) R4 P4
  · refine ⟨false, rep_bl.mp R3, ?_⟩
    rw [if_neg Bool.false_ne_true]
    exact P3.here S3 (rep_bl.mpr rfl)
  · exact P3.elim

/-! ## argument lists, displays -/
def aNil : AM := fun _ st => .ok [] st
def aCons (a : EM) (b : AM) : AM := fun env st => (a env st).bind fun x st1 => (b env st1).bind fun xs st2 => .ok (x :: xs) st2
theorem ra_nil : RA X E [] aNil := ⟨pa_weak pa_nil fun σ H Q ⟨r, env, st, A, P⟩ => P.here (v := []) A.so Reps.nil⟩
theorem ra_cons {e : Expr} {es : List Expr} {m : EM} {ms : AM} (ha : RE X E e m) (hr : RA X E es ms) (hs : starEach (e :: es) X.env = (false, eval e X.env) :: starEach es X.env := by rfl) : RA X E (e :: es) (aCons m ms) := by
  refine ⟨pa_weak (pa_cons ha.p hr.p hs) fun σ H Q ⟨r, env, st, A, P⟩ => ?_⟩
  refine ⟨r, env, st, A, post_bind P fun d st1 v H1 r1 e1 S1 R1 P1 => ?_⟩
  refine ⟨r1, env, st1, A.later e1 S1, post_bind P1 fun ds st2 vs H2 r2 e2 S2 R2 P2 => ?_⟩
  exact P2.here (v := v :: vs) S2 (Reps.cons (Rep.ext S1 e2 _ _ R1) R2)
def cTup (a : AM) : EM := fun env st => (a env st).bind fun xs st1 => if xs.length ≤ 1000 then .ok (.tup xs) st1 else .stuck
/-- a list that is never changed -/
def cLst (a : AM) : EM := fun env st => (a env st).bind fun xs st1 => if xs.length ≤ 1000 then .ok (.lst xs) st1 else .stuck
/-- a list of the store -/
def cNewL (a : AM) : EM := fun env st => (a env st).bind fun xs st1 => if xs.length ≤ 1000 then .ok (.ref st1.length) (st1 ++ [.lst xs]) else .stuck
theorem le_line {n : Nat} (h : n ≤ 1000) : n ≤ sizeLine := Nat.le_trans h (by decide)
theorem new_tup {H : Hp} {r : Rg} {st : Sto} {ds : List D} {vs : List V} {Q : VK} (S : StOk X.K X.mg H r st) (R : Reps X.K H r ds vs) (hl : vs.length ≤ sizeLine) (P : Post (relD X.K) X.K X.mg E H r (.ok (.tup ds) st) Q) :
    ∀ p, H p = none → Q (.ref p) (upd H p (.tup vs)) := fun p hp => by
  refine P (.ref p) _ r (ext_new hp) (S.side hp) ?_
  show Rep _ _ _ _ _
  rw [Rep]
  exact ⟨p, vs, rfl, .inl (.inl upd_same), hl, Reps.ext S (ext_new hp) _ _ R⟩
theorem new_lst {H : Hp} {r : Rg} {st : Sto} {ds : List D} {vs : List V} {Q : VK} (S : StOk X.K X.mg H r st) (R : Reps X.K H r ds vs) (hl : vs.length ≤ sizeLine) (P : Post (relD X.K) X.K X.mg E H r (.ok (.lst ds) st) Q) :
    ∀ p, H p = none → Q (.ref p) (upd H p (.lst vs)) := fun p hp => by
  refine P (.ref p) _ r (ext_new hp) (S.side hp) ?_
  show Rep _ _ _ _ _
  rw [Rep]
  refine ⟨p, vs, rfl, fun hm => ?_, fun hm => ?_, upd_same, hl, Reps.ext S (ext_new hp) _ _ R⟩
  · obtain ⟨u, hu⟩ := S.mem hm
    rw [hp] at hu; cases hu
  · obtain ⟨u, hu⟩ := S.bt p hm
    rw [hp] at hu; cases hu
theorem new_ref {H : Hp} {r : Rg} {st : Sto} {ds : List D} {vs : List V} {Q : VK} (S : StOk X.K X.mg H r st) (R : Reps X.K H r ds vs) (hl : vs.length ≤ sizeLine) (P : Post (relD X.K) X.K X.mg E H r (.ok (.ref st.length) (st ++ [.lst ds])) Q) :
    ∀ p, H p = none → Q (.ref p) (upd H p (.lst vs)) := fun p hp => by
  have e := ext_push (o := .lst vs) S hp
  refine P (.ref p) _ (r.push p) e (S.push hp ⟨vs, upd_same, hl, Reps.ext S e _ _ R⟩) ?_
  show Rep _ _ _ _ _
  rw [Rep]
  exact ⟨p, rfl, by rw [← S.len]; exact get_append_new r p⟩
theorem re_tup {es : List Expr} {m : AM} {x1 : Nat} {pos : Pos} (h : RA X E es m) : RE X E (.Tuple es x1 pos) (cTup m) := by
  refine re_pe (pe_tup h.p) fun σ H Q r env st A P => ?_
  refine ⟨r, env, st, A, post_bind P fun ds st1 vs H1 r1 e1 S1 R1 P1 => ?_⟩
  split at P1
  · rename_i hl
    rw [Reps.length R1] at hl
    exact ⟨le_line hl, new_tup S1 R1 (le_line hl) P1⟩
  · exact P1.elim
theorem re_lst {es : List Expr} {m : AM} {pos : Pos} (h : RA X E es m) : RE X E (.List es pos) (cLst m) := by
  refine re_pe (pe_lst h.p) fun σ H Q r env st A P => ?_
  refine ⟨r, env, st, A, post_bind P fun ds st1 vs H1 r1 e1 S1 R1 P1 => ?_⟩
  split at P1
  · rename_i hl
    rw [Reps.length R1] at hl
    exact ⟨le_line hl, new_lst S1 R1 (le_line hl) P1⟩
  · exact P1.elim
theorem re_newl {es : List Expr} {m : AM} {pos : Pos} (h : RA X E es m) : RE X E (.List es pos) (cNewL m) := by
  refine re_pe (pe_lst h.p) fun σ H Q r env st A P => ?_
  refine ⟨r, env, st, A, post_bind P fun ds st1 vs H1 r1 e1 S1 R1 P1 => ?_⟩
  split at P1
  · rename_i hl
    rw [Reps.length R1] at hl
    exact ⟨le_line hl, new_ref S1 R1 (le_line hl) P1⟩
  · exact P1.elim
end
end LB
/- ===== LStm ===== -/
set_option Elab.async false
set_option linter.all false
set_option maxRecDepth 100000
set_option autoImplicit false
namespace LB
open PySem PySem.Spec PyProof.Rows L2

section
variable {X : Cx} {E : XK}
/-! ## tests -/
def seqOf (st : Sto) : D → Option (List D)
  | .tup ds => some ds
  | .lst ds => some ds
  | .ref n => match st[n]? with
    | some (.lst ds) => some ds
    | _ => none
  | _ => none
theorem seq_of {K : PySem.W.Frag} {mg : Str → Option Value} {H : Hp} {r : Rg} {st : Sto} (S : StOk K mg H r st) {d : D} {v : V} {ds : List D} (R : Rep K H r d v) (h : seqOf st d = some ds) :
    ∃ a xs, v = .ref a ∧ (SqL K H a xs ∨ SqT K H a xs) ∧ xs.length ≤ sizeLine ∧ Reps K H r ds xs := by
  cases d with
  | tup es =>
    simp only [seqOf, Option.some.injEq] at h; subst h
    obtain ⟨a, xs, h1, h2, h3, h4⟩ := rep_tup.mp R
    exact ⟨a, xs, h1, .inr h2, h3, h4⟩
  | lst es =>
    simp only [seqOf, Option.some.injEq] at h; subst h
    obtain ⟨a, xs, h1, _, _, h2, h3, h4⟩ := rep_lst.mp R
    exact ⟨a, xs, h1, .inl (SqL.of h2), h3, h4⟩
  | ref n =>
    obtain ⟨a, h1, h2⟩ := rep_ref.mp R
    obtain ⟨o, e, q⟩ := S.there h2
    simp only [seqOf, e] at h
    cases o with
    | lst es =>
      simp only [Option.some.injEq] at h; subst h
      obtain ⟨xs, q1, q2, q3⟩ := q
      exact ⟨a, xs, h1, .inl (SqL.of q1), q2, q3⟩
    | _ => simp at h
  | _ => simp [seqOf] at h
theorem Reps.isEmpty {K : PySem.W.Frag} {H : Hp} {r : Rg} {ds : List D} {xs : List V} (h : Reps K H r ds xs) : xs.isEmpty = ds.isEmpty := by
  have := Reps.length h
  cases ds <;> cases xs <;> simp_all
def truthD (st : Sto) : D → Option Bool
  | .non => some false
  | .bl b => some b
  | .int i => some (i != 0)
  | .str s => if s.length ≤ sizeLine then some ((s.length : Int) != 0) else none
  | d => (seqOf st d).map fun ds => !ds.isEmpty
theorem truth_of {K : PySem.W.Frag} {mg : Str → Option Value} {H : Hp} {r : Rg} {st : Sto} (S : StOk K mg H r st) {d : D} {v : V} {b : Bool} (R : Rep K H r d v) (h : truthD st d = some b) : TruV K v H b := by
  have sq : ∀ (d : D), Rep K H r d v → (seqOf st d).map (fun ds => !ds.isEmpty) = some b → TruV K v H b := fun d R h => by
    cases e : seqOf st d with
    | none => rw [e] at h; cases h
    | some ds =>
      rw [e] at h
      simp only [Option.map_some, Option.some.injEq] at h
      obtain ⟨a, xs, rfl, q, _, q3⟩ := seq_of S R e
      rw [← Reps.isEmpty q3] at h
      rcases q with q | q
      · exact .inl ⟨xs, q, h.symm⟩
      · exact .inr (.inl ⟨xs, q, h.symm⟩)
  cases d with
  | non => rw [rep_non.mp R]; simp [truthD] at h; exact h
  | bl c => rw [rep_bl.mp R]; simp [truthD] at h; exact h.symm
  | int i => rw [rep_int.mp R]; simp only [truthD, Option.some.injEq] at h; exact h.symm
  | str s =>
    rw [rep_str.mp R]
    simp only [truthD] at h
    split at h
    · simp only [Option.some.injEq] at h; exact ⟨by assumption, h.symm⟩
    · cases h
  | tup ds => exact sq _ R h
  | lst ds => exact sq _ R h
  | ref n => exact sq _ R h
  | scr ns => exact sq _ R h
def cTruth (m : EM) : BM := fun env st => (m env st).bind fun d st1 => match truthD st1 d with
  | some b => .ok b st1
  | none => .stuck
def cB (m : EM) : BM := fun env st => (m env st).bind fun d st1 => match d with
  | .bl b => .ok b st1
  | _ => .stuck
theorem rt_weak {e : Expr} {m : BM} {t : TT} (h : PT X e t) (w : ∀ σ H Q r env st, Abs X.K X.mg H r σ env st → Post relB X.K X.mg E H r (m env st) Q → t σ H Q) : RT X E e m :=
  ⟨pt_weak h fun σ H Q ⟨r, env, st, A, P⟩ => w σ H Q r env st A P⟩
theorem rt_truth {e : Expr} {m : EM} (h : RE X E e m) (he : ∀ whole, isTrue e X.env whole = (do let v ← whole; standAt e.pos; holding [v] (truthy v)) := by intro _; rfl) : RT X E e (cTruth m) := by
  refine rt_weak (pt_truth h.p he) fun σ H Q r env st A P => ?_
  refine ⟨r, env, st, A, post_bind P fun d st1 v H1 r1 e1 S1 R1 P1 => ?_⟩
  split at P1
  · rename_i b hb
    exact ⟨b, truth_of S1 R1 hb, P1.here S1 rfl⟩
  · exact P1.elim
theorem to_b {m : EM} {t : TE} {σ : L2.St} {H : Hp} {Q : Bool → Hp → Prop} {r : Rg} {env : Ev} {st : Sto} (w : ∀ Q, Post (relD X.K) X.K X.mg E H r (m env st) Q → t σ H Q) (P : Post relB X.K X.mg E H r (cB m env st) Q) : tTest t σ H Q := by
  refine w _ (post_bind P fun d st1 v H1 r1 e1 S1 R1 P1 => ?_)
  split at P1
  · exact ⟨_, rep_bl.mp R1, P1.here S1 rfl⟩
  · exact P1.elim
theorem rt_cmp {op : CmpOp} {a b : Expr} {ma mb : EM} {rel : R2} {f : VF2} {pos : Pos} (ho : OpR X (compareOp op) rel) (hv : V2 X E rel f) (hm : behindInMarks op b = false) (ha : RE X E a ma) (hb : RE X E b mb) :
    RT X E (.Compare a [op] [b] pos) (cB (c2 f ma mb)) := by
  refine rt_weak (pt_cmpR ho ha.p hb.p hm) fun σ H Q r env st A P => ?_
  exact to_b (X := X) (E := E) (fun Q h => op2 (a := a) (b := b) hv ⟨r, env, st, A, h⟩) P
theorem rt_chain {op op' : CmpOp} {a b c : Expr} {ma mb mc : EM} {rel rel' : R2} {f g : VF2} {pos : Pos} (ho : OpR X (compareOp op) rel) (ho' : OpR X (compareOp op') rel') (hv : V2 X E rel f) (hv' : V2 X E rel' g)
    (ha : RE X E a ma) (hb : RE X E b mb) (hc : RE X E c mc) (hm : lastMarks [op, op'] [b, c] = false := by with_unfolding_all rfl) : RT X E (.Compare a [op, op'] [b, c] pos) (cB (cChain f g ma mb mc)) := by
  refine rt_weak (pt_chain ho ho' ha.p hb.p hc.p hm) fun σ H Q r env st A P => ?_
  refine to_b (X := X) (E := E) (fun Q P => ?_) P
  refine ⟨r, env, st, A, post_bind P fun d st1 v H1 r1 e1 S1 R1 P1 => ?_⟩
  refine ⟨r1, env, st1, A.later e1 S1, post_bind P1 fun e st2 w H2 r2 e2 S2 R2 P2 => ?_⟩
  have R1' := Rep.ext S1 e2 _ _ R1
  refine hv H2 r2 st2 v w d e _ S2 R1' R2 (post_bind P2 fun z st3 u H3 r3 e3 S3 R3 P3 => ?_)
  split at P3
  · refine ⟨true, rep_bl.mp R3, ?_⟩
    rw [if_pos rfl]
    refine ⟨r3, env, st3, ((A.later e1 S1).later e2 S2).later e3 S3, post_bind P3 fun e' st4 w' H4 r4 e4 S4 R4 P4 => ?_⟩
    exact hv' H4 r4 st4 w w' e e' Q S4 (Rep.ext S2 (e3.trans e4) _ _ R2) R4 P4
  · refine ⟨false, rep_bl.mp R3, ?_⟩
    rw [if_neg Bool.false_ne_true]
    exact P3.here S3 (rep_bl.mpr rfl)
  · exact P3.elim
/-- is None, is not None -/
def vIsN (neg : Bool) : VF1 := fun d st => match d with
  | .non => .ok (.bl !neg) st
  | _ => .ok (.bl neg) st
theorem Rep.isnon {K : PySem.W.Frag} {H : Hp} {r : Rg} {d : D} {v : V} (R : Rep K H r d v) : (v = .non ↔ d = .non) := by
  cases d with
  | non => rw [rep_non.mp R]; simp
  | bl c => rw [rep_bl.mp R]; simp
  | int i => rw [rep_int.mp R]; simp
  | str s => rw [rep_str.mp R]; simp
  | tup ds => obtain ⟨a, xs, rfl, _⟩ := rep_tup.mp R; simp
  | lst ds => obtain ⟨a, xs, rfl, _⟩ := rep_lst.mp R; simp
  | ref n => obtain ⟨a, rfl, _⟩ := rep_ref.mp R; simp
  | scr ns => obtain ⟨a, rfl, _⟩ := rep_scr.mp R; simp
theorem v1_isN {H : Hp} {r : Rg} {st : Sto} {d : D} {v : V} {Q : VK} (S : StOk X.K X.mg H r st) (R : Rep X.K H r d v) (P : Post (relD X.K) X.K X.mg E H r (vIsN false d st) Q) : Q (.bl (decide (v = .non))) H := by
  by_cases h : v = .non
  · rw [Rep.isnon R] at h
    subst h
    rw [decide_eq_true (rep_non.mp R)]
    exact P.here S (rep_bl.mpr rfl)
  · rw [decide_eq_false h]
    rw [Rep.isnon R] at h
    cases d <;> first | exact absurd rfl h | exact P.here S (rep_bl.mpr rfl)
theorem v1_notN {H : Hp} {r : Rg} {st : Sto} {d : D} {v : V} {Q : VK} (S : StOk X.K X.mg H r st) (R : Rep X.K H r d v) (P : Post (relD X.K) X.K X.mg E H r (vIsN true d st) Q) : Q (.bl (!decide (v = .non))) H := by
  by_cases h : v = .non
  · rw [Rep.isnon R] at h
    subst h
    rw [decide_eq_true (rep_non.mp R)]
    exact P.here S (rep_bl.mpr rfl)
  · rw [decide_eq_false h]
    rw [Rep.isnon R] at h
    cases d <;> first | exact absurd rfl h | exact P.here S (rep_bl.mpr rfl)
theorem re_isN {a : Expr} {ma : EM} {j : Nat} {pos pos' : Pos} (ha : RE X E a ma) : RE X E (.Compare a [.Is] [.Constant .none j pos'] pos) (c1 (vIsN false) ma) :=
  re_pe (pe_cmp (pc_isN ha.p)) fun σ H Q r env st A P => ⟨r, env, st, A, post_bind P fun d st1 v H1 r1 e1 S1 R1 P1 => v1_isN S1 R1 P1⟩
theorem re_notN {a : Expr} {ma : EM} {j : Nat} {pos pos' : Pos} (ha : RE X E a ma) : RE X E (.Compare a [.IsNot] [.Constant .none j pos'] pos) (c1 (vIsN true) ma) :=
  re_pe (pe_cmp (pc_notN ha.p)) fun σ H Q r env st A P => ⟨r, env, st, A, post_bind P fun d st1 v H1 r1 e1 S1 R1 P1 => v1_notN S1 R1 P1⟩
theorem rt_isN {a : Expr} {ma : EM} {j : Nat} {pos pos' : Pos} (ha : RE X E a ma) : RT X E (.Compare a [.Is] [.Constant .none j pos'] pos) (cB (c1 (vIsN false) ma)) := by
  refine rt_weak (pt_cmp (pc_isN ha.p)) fun σ H Q r env st A P => ?_
  exact to_b (X := X) (E := E) (t := tIsN (rdE X E ma)) (fun Q P => ⟨r, env, st, A, post_bind P fun d st1 v H1 r1 e1 S1 R1 P1 => v1_isN S1 R1 P1⟩) P
theorem rt_notN {a : Expr} {ma : EM} {j : Nat} {pos pos' : Pos} (ha : RE X E a ma) : RT X E (.Compare a [.IsNot] [.Constant .none j pos'] pos) (cB (c1 (vIsN true) ma)) := by
  refine rt_weak (pt_cmp (pc_notN ha.p)) fun σ H Q r env st A P => ?_
  exact to_b (X := X) (E := E) (t := tNotN (rdE X E ma)) (fun Q P => ⟨r, env, st, A, post_bind P fun d st1 v H1 r1 e1 S1 R1 P1 => v1_notN S1 R1 P1⟩) P

/-! ## and, or, not, if-else -/
def bAnd (a b : BM) : BM := fun env st => (a env st).bind fun x st1 => if x then b env st1 else .ok false st1
def bOr (a b : BM) : BM := fun env st => (a env st).bind fun x st1 => if x then .ok true st1 else b env st1
def bNot (a : BM) : BM := fun env st => (a env st).bind fun x st1 => .ok (!x) st1
theorem rw_and1 {a : Expr} {m : BM} {pos : Pos} (h : RT X E a m) : RW X E (.BoolOp .And [a] pos) m := ⟨pw_and1 h.p⟩
theorem rw_or1 {a : Expr} {m : BM} {pos : Pos} (h : RT X E a m) : RW X E (.BoolOp .Or [a] pos) m := ⟨pw_or1 h.p⟩
theorem rw_and {a b : Expr} {rest : List Expr} {m n : BM} {pos : Pos} (ha : RT X E a m) (hb : RW X E (.BoolOp .And (b :: rest) pos) n) : RW X E (.BoolOp .And (a :: b :: rest) pos) (bAnd m n) := by
  refine ⟨pw_weak (pw_and ha.p hb.p) fun σ H Q ⟨r, env, st, A, P⟩ => ?_⟩
  refine ⟨r, env, st, A, post_bind P fun d st1 v H1 r1 e1 S1 R1 P1 => ?_⟩
  have R1 : v = d := R1
  subst R1
  cases v with
  | true => exact ⟨r1, env, st1, A.later e1 S1, P1⟩
  | false => exact P1.here S1 rfl
theorem rw_or {a b : Expr} {rest : List Expr} {m n : BM} {pos : Pos} (ha : RT X E a m) (hb : RW X E (.BoolOp .Or (b :: rest) pos) n) : RW X E (.BoolOp .Or (a :: b :: rest) pos) (bOr m n) := by
  refine ⟨pw_weak (pw_or ha.p hb.p) fun σ H Q ⟨r, env, st, A, P⟩ => ?_⟩
  refine ⟨r, env, st, A, post_bind P fun d st1 v H1 r1 e1 S1 R1 P1 => ?_⟩
  have R1 : v = d := R1
  subst R1
  cases v with
  | true => exact P1.here S1 rfl
  | false => exact ⟨r1, env, st1, A.later e1 S1, P1⟩
theorem rt_w {e : Expr} {m : BM} (h : RW X E e m) : RT X E e m := ⟨h.p.pt⟩
theorem rt_not {a : Expr} {m : BM} {pos : Pos} (h : RT X E a m) : RT X E (.UnaryOp .Not a pos) (bNot m) := by
  refine rt_weak (pt_not h.p) fun σ H Q r env st A P => ?_
  refine ⟨r, env, st, A, post_bind P fun d st1 v H1 r1 e1 S1 R1 P1 => ?_⟩
  have R1 : v = d := R1
  subst R1
  exact P1.here S1 rfl
/-- .. as values, bools -/
def cAnd (a b : EM) : EM := fun env st => (a env st).bind fun x st1 => match x with
  | .bl true => b env st1
  | .bl false => .ok (.bl false) st1
  | _ => .stuck
def cOr (a b : EM) : EM := fun env st => (a env st).bind fun x st1 => match x with
  | .bl true => .ok (.bl true) st1
  | .bl false => b env st1
  | _ => .stuck
def cNot (a : EM) : EM := fun env st => (a env st).bind fun x st1 => match x with
  | .bl b => .ok (.bl !b) st1
  | _ => .stuck
theorem re_one {op : BoolOp} {a : Expr} {m : EM} {pos : Pos} (h : RE X E a m) : RE X E (.BoolOp op [a] pos) m := ⟨pe_one h.p⟩
theorem re_and {a b : Expr} {rest : List Expr} {m n : EM} {pos : Pos} (ha : RE X E a m) (hb : RE X E (.BoolOp .And (b :: rest) pos) n) : RE X E (.BoolOp .And (a :: b :: rest) pos) (cAnd m n) := by
  refine re_pe (pe_and ha.p hb.p) fun σ H Q r env st A P => ?_
  refine ⟨r, env, st, A, post_bind P fun d st1 v H1 r1 e1 S1 R1 P1 => ?_⟩
  split at P1
  · refine ⟨true, rep_bl.mp R1, ?_⟩
    rw [if_pos rfl]
    exact ⟨r1, env, st1, A.later e1 S1, P1⟩
  · refine ⟨false, rep_bl.mp R1, ?_⟩
    rw [if_neg Bool.false_ne_true]
    exact P1.here S1 (rep_bl.mpr rfl)
  · exact P1.elim
theorem re_or {a b : Expr} {rest : List Expr} {m n : EM} {pos : Pos} (ha : RE X E a m) (hb : RE X E (.BoolOp .Or (b :: rest) pos) n) : RE X E (.BoolOp .Or (a :: b :: rest) pos) (cOr m n) := by
  refine re_pe (pe_or ha.p hb.p) fun σ H Q r env st A P => ?_
  refine ⟨r, env, st, A, post_bind P fun d st1 v H1 r1 e1 S1 R1 P1 => ?_⟩
  split at P1
  · refine ⟨true, rep_bl.mp R1, ?_⟩
    rw [if_pos rfl]
    exact P1.here S1 (rep_bl.mpr rfl)
  · refine ⟨false, rep_bl.mp R1, ?_⟩
    rw [if_neg Bool.false_ne_true]
    exact ⟨r1, env, st1, A.later e1 S1, P1⟩
  · exact P1.elim
theorem re_not {a : Expr} {m : EM} {pos : Pos} (ha : RE X E a m) : RE X E (.UnaryOp .Not a pos) (cNot m) := by
  refine re_pe (pe_not ha.p) fun σ H Q r env st A P => ?_
  refine ⟨r, env, st, A, post_bind P fun d st1 v H1 r1 e1 S1 R1 P1 => ?_⟩
  split at P1
  · exact ⟨_, rep_bl.mp R1, P1.here S1 (rep_bl.mpr rfl)⟩
  · exact P1.elim
def cIf (c : BM) (a b : EM) : EM := fun env st => (c env st).bind fun x st1 => if x then a env st1 else b env st1
theorem re_if {c a b : Expr} {mc : BM} {ma mb : EM} {pos : Pos} (hc : RT X E c mc) (ha : RE X E a ma) (hb : RE X E b mb) : RE X E (.IfExp c a b pos) (cIf mc ma mb) := by
  refine re_pe (pe_ifExp hc.p ha.p hb.p) fun σ H Q r env st A P => ?_
  refine ⟨r, env, st, A, post_bind P fun d st1 v H1 r1 e1 S1 R1 P1 => ?_⟩
  have R1 : v = d := R1
  subst R1
  cases v with
  | true => exact ⟨r1, env, st1, A.later e1 S1, P1⟩
  | false => exact ⟨r1, env, st1, A.later e1 S1, P1⟩

/-! ## statements -/
theorem rs_weak {s : Stmt} {m : SM} {t : TS} (h : PS X s t) (w : ∀ D σ H r env st, Abs X.K X.mg H r σ env st → PostS X.K X.mg E H r (m env st) D → t D σ H) : RS X E s m :=
  ⟨ps_weak h fun D σ H ⟨r, env, st, A, P⟩ => w D σ H r env st A P⟩
theorem rb_weak {s : List Stmt} {m : SM} {t : TS} (h : PSs X s t) (w : ∀ D σ H r env st, Abs X.K X.mg H r σ env st → PostS X.K X.mg E H r (m env st) D → t D σ H) : RB X E s m :=
  ⟨pss_weak h fun D σ H ⟨r, env, st, A, P⟩ => w D σ H r env st A P⟩
theorem PostS.later {K : PySem.W.Frag} {mg : Str → Option Value} {H H1 : Hp} {r r1 : Rg} {res : Res Out} {D : Ends} (e : Ext r H r1 H1) (h : PostS K mg E H r res D) : PostS K mg E H1 r1 res D := by
  cases res with
  | ok o st =>
    cases o with
    | nx env => exact fun σ' H' r' e' A => h σ' H' r' (e.trans e') A
    | rt d => exact fun v H' r' e' S R => h v H' r' (e.trans e') S R
    | bk env => exact fun σ' H' r' e' A => h σ' H' r' (e.trans e') A
    | ct env => exact fun σ' H' r' e' A => h σ' H' r' (e.trans e') A
  | ex x st => exact fun C od H' r' e' S R => h C od H' r' (e.trans e') S R
  | stuck => exact h
/-- a statement begins with a value -/
theorem postS_bind {α β : Type} {rel : Hp → Rg → α → β → Prop} {K : PySem.W.Frag} {mg : Str → Option Value} {H : Hp} {r : Rg} {res : Res α} {f : α → Sto → Res Out} {D : Ends} {Q1 : β → Hp → Prop} (h : PostS K mg E H r (res.bind f) D)
    (k : ∀ d st1 v H1 r1, Ext r H r1 H1 → StOk K mg H1 r1 st1 → rel H1 r1 d v → PostS K mg E H1 r1 (f d st1) D → Q1 v H1) : Post rel K mg E H r res Q1 := by
  cases res with
  | ok d st => exact fun v H' r' e S R => k d st v H' r' e S R (PostS.later e h)
  | ex x st => exact h
  | stuck => exact h
theorem PostS.next {K : PySem.W.Frag} {mg : Str → Option Value} {H : Hp} {r : Rg} {env : Ev} {st : Sto} {D : Ends} {σ : L2.St} (h : PostS K mg E H r (.ok (.nx env) st) D) (A : Abs K mg H r σ env st) : D.nx σ H := h σ H r (Ext.refl r H) A

def sPass : SM := fun env st => .ok (.nx env) st
def sBreak : SM := fun env st => .ok (.bk env) st
def sCont : SM := fun env st => .ok (.ct env) st
def sStuck : SM := fun _ _ => .stuck
def sDrop (m : EM) : SM := fun env st => (m env st).bind fun _ st1 => .ok (.nx env) st1
def sRet (m : EM) : SM := fun env st => (m env st).bind fun d st1 => .ok (.rt d) st1
def sIf (c : BM) (a b : SM) : SM := fun env st => (c env st).bind fun x st1 => if x then a env st1 else b env st1
/-- one statement, then the others -/
def sSeq (a b : SM) : SM := fun env st => (a env st).bind fun o st1 => match o with
  | .nx env1 => b env1 st1
  | o => .ok o st1
theorem rs_pass {pos : Pos} : RS X E (.Pass pos) sPass := rs_weak ps_pass fun D σ H r env st A P => PostS.next P A
theorem rs_break {pos : Pos} : RS X E (.Break pos) sBreak := rs_weak ps_break fun D σ H r env st A P => P σ H r (Ext.refl r H) A
theorem rs_cont {pos : Pos} : RS X E (.Continue pos) sCont := rs_weak ps_continue fun D σ H r env st A P => P σ H r (Ext.refl r H) A
theorem rs_stuck {s : Stmt} : RS X E s sStuck := rs_weak ps_never fun D σ H r env st A P => P.elim
theorem rs_expr {e : Expr} {m : EM} {pos : Pos} (h : RE X E e m) (hs : swapsWith e none pos.line X.env = pure false := by rfl) : RS X E (.Expr e pos) (sDrop m) :=
  rs_weak (ps_expr h.p hs) fun D σ H r env st A P => ⟨r, env, st, A, postS_bind P fun d st1 v H1 r1 e1 S1 R1 P1 => PostS.next P1 (A.later e1 S1)⟩
theorem rs_ret {e : Expr} {m : EM} {pos : Pos} (h : RE X E e m) : RS X E (.Return (some e) pos) (sRet m) :=
  rs_weak (ps_ret h.p) fun D σ H r env st A P => ⟨r, env, st, A, postS_bind P fun d st1 v H1 r1 e1 S1 R1 P1 => P1 v H1 r1 (Ext.refl r1 H1) S1 R1⟩
def sRetN : SM := fun _ st => .ok (.rt .non) st
theorem rs_retN {pos : Pos} : RS X E (.Return none pos) sRetN := rs_weak ps_retN fun D σ H r env st A P => P .non H r (Ext.refl r H) A.so (rep_non.mpr rfl)
theorem rs_if {c : Expr} {a b : List Stmt} {mc : BM} {ma mb : SM} {pos : Pos} (hc : RT X E c mc) (ha : RB X E a ma) (hb : RB X E b mb) : RS X E (.If c a b pos) (sIf mc ma mb) := by
  refine rs_weak (ps_if hc.p ha.p hb.p) fun D σ H r env st A P => ?_
  refine ⟨r, env, st, A, postS_bind P fun d st1 v H1 r1 e1 S1 R1 P1 => ?_⟩
  have R1 : v = d := R1
  subst R1
  cases v with
  | true => exact ⟨r1, env, st1, A.later e1 S1, P1⟩
  | false => exact ⟨r1, env, st1, A.later e1 S1, P1⟩
theorem rb_nil : RB X E [] sPass := rb_weak pss_nil fun D σ H r env st A P => PostS.next P A
theorem rb_one {s : Stmt} {m : SM} (h : RS X E s m) : RB X E [s] m := ⟨pss_one h.p⟩
theorem rb_cons {s : Stmt} {rest : List Stmt} {m n : SM} (h : RS X E s m) (t : RB X E rest n) : RB X E (s :: rest) (sSeq m n) := by
  refine rb_weak (pss_cons h.p t.p) fun D σ H r env st A P => ?_
  refine ⟨r, env, st, A, ?_⟩
  unfold sSeq at P
  cases e : m env st with
  | ok o st1 =>
    rw [e, bind_ok] at P
    cases o with
    | nx env1 => exact fun σ' H' r' e' A' => ⟨r', env1, st1, A', PostS.later e' P⟩
    | rt d => exact P
    | bk env1 => exact P
    | ct env1 => exact P
  | ex x st1 => rw [e] at P; exact P
  | stuck => rw [e] at P; exact P

/-! ## targets -/
abbrev GM := D → Ev → Sto → Res Ev
abbrev GMs := List D → Ev → Sto → Res Ev
def PostV (K : PySem.W.Frag) (mg : Str → Option Value) (E : XK) (H : Hp) (r : Rg) (res : Res Ev) (Q : L2.St → Hp → Prop) : Prop :=
  match res with
  | .ok env' st' => ∀ σ' H' r', Ext r H r' H' → Abs K mg H' r' σ' env' st' → Q σ' H'
  | .ex x st' => ∀ C od H' r', Ext r H r' H' → StOk K mg H' r' st' → RepX K mg H' r' x C od → E C od H'
  | .stuck => False
/-- but for the slots is all is as it was -/
def SameBut (is : List Nat) (σ σ' : L2.St) : Prop := ∀ vs : List Nat, (∀ i ∈ is, i ∈ vs) → wipe σ' vs = wipe σ vs
theorem SameBut.refl {is : List Nat} {σ : L2.St} : SameBut is σ σ := fun _ _ => rfl
theorem wipe_set : ∀ (vs : List Nat) (σ : L2.St) (i : Nat) (x : Option V), i ∈ vs → wipe (σ.set i x) vs = wipe σ vs
  | [], _, _, _, h => by simp at h
  | v :: vs, σ, i, x, h => by
    unfold wipe
    by_cases hm : i ∈ vs
    · rw [wipe_set vs σ i x hm]
    · have e : i = v := by
        rcases List.mem_cons.mp h with e | e
        · exact e
        · exact absurd e hm
      subst e
      have out : ∀ (us : List Nat) (τ : L2.St), i ∉ us → wipe (τ.set i x) us = (wipe τ us).set i x := by
        intro us
        induction us with
        | nil => intro τ _; rfl
        | cons u us ih =>
          intro τ hu
          simp only [List.mem_cons, not_or] at hu
          unfold wipe
          rw [ih τ hu.2, List.set_comm _ _ hu.1]
      rw [out vs σ hm, List.set_set]
theorem SameBut.set {is : List Nat} {σ : L2.St} {i : Nat} {x : Option V} (h : i ∈ is) : SameBut is σ (σ.set i x) := fun vs hv => wipe_set vs σ i x (hv i h)
theorem SameBut.trans {is js : List Nat} {σ1 σ2 σ3 : L2.St} (a : SameBut is σ1 σ2) (b : SameBut js σ2 σ3) : SameBut (is ++ js) σ1 σ3 := fun vs hv =>
  (b vs fun i hi => hv i (List.mem_append_right _ hi)).trans (a vs fun i hi => hv i (List.mem_append_left _ hi))
def rdG (X : Cx) (E : XK) (is : List Nat) (g : GM) : TG := fun v σ H Q => ∃ r env st d, Abs X.K X.mg H r σ env st ∧ Rep X.K H r d v ∧ PostV X.K X.mg E H r (g d env st) fun σ' H' => SameBut is σ σ' → Q σ' H'
def rdGs (X : Cx) (E : XK) (is : List Nat) (g : GMs) : TGs := fun vs σ H Q => ∃ r env st ds, Abs X.K X.mg H r σ env st ∧ Reps X.K H r ds vs ∧ PostV X.K X.mg E H r (g ds env st) fun σ' H' => SameBut is σ σ' → Q σ' H'
structure RG (X : Cx) (E : XK) (t : Expr) (is : List Nat) (g : GM) : Prop where
  p : PG X t (rdG X E is g)
structure RGs (X : Cx) (E : XK) (t : List Expr) (is : List Nat) (g : GMs) : Prop where
  p : PGs X t (rdGs X E is g)
theorem pg_weak {e : Expr} {t t' : TG} (h : PG X e t) (w : ∀ v σ H Q, t' v σ H Q → t v σ H Q) : PG X e t' := ⟨fun pins s σ H v u Q I r q => h.run pins s σ H v u Q I r (w _ _ _ _ q)⟩
theorem pgs_weak {e : List Expr} {t t' : TGs} (h : PGs X e t) (w : ∀ v σ H Q, t' v σ H Q → t v σ H Q) : PGs X e t' := ⟨fun pins s σ H v u Q I r q => h.run pins s σ H v u Q I r (w _ _ _ _ q)⟩
theorem PostV.later {K : PySem.W.Frag} {mg : Str → Option Value} {H H1 : Hp} {r r1 : Rg} {res : Res Ev} {Q : L2.St → Hp → Prop} (e : Ext r H r1 H1) (h : PostV K mg E H r res Q) : PostV K mg E H1 r1 res Q := by
  cases res with
  | ok env st => exact fun σ' H' r' e' A => h σ' H' r' (e.trans e') A
  | ex x st => exact fun C od H' r' e' S R => h C od H' r' (e.trans e') S R
  | stuck => exact h
def gNm (i : Nat) : GM := fun d env st => .ok (env.set i (some d)) st
def gsNil : GMs := fun ds env st => match ds with
  | [] => .ok env st
  | _ => .stuck
def gsCons (g : GM) (gs : GMs) : GMs := fun ds env st => match ds with
  | d :: r => (g d env st).bind fun env1 st1 => gs r env1 st1
  | _ => .stuck
def gTp (n : Nat) (gs : GMs) : GM := fun d env st => match d with
  | .tup ds => if ds.length = n then gs ds env st else .stuck
  | _ => .stuck
theorem rg_name {i : Nat} {x : Str} {pos : Pos} (hN : X.N.Nodup) (hi : X.N[i]? = some x) (hx : Loc X.env.scope x) (hf : X.fn x = true ∨ X.env.scope.names.lookup x = some .local := by first | exact .inl rfl | exact .inr rfl | assumption) : RG X E (.Name x pos) [i] (gNm i) := by
  refine ⟨pg_weak (pg_name hN hi hx hf) fun v σ H Q ⟨r, env, st, d, A, R, P⟩ => ?_⟩
  exact P _ H r (Ext.refl r H) (A.set R) (SameBut.set (List.mem_singleton.mpr rfl))
theorem rgs_nil : RGs X E [] [] gsNil := by
  refine ⟨pgs_weak pgs_nil fun vs σ H Q ⟨r, env, st, ds, A, R, P⟩ => ?_⟩
  cases ds with
  | nil => rw [Reps] at R; exact ⟨R, P σ H r (Ext.refl r H) A SameBut.refl⟩
  | cons d t => exact P.elim
theorem rgs_cons {e : Expr} {es : List Expr} {is js : List Nat} {g : GM} {gs : GMs} (h1 : RG X E e is g) (h2 : RGs X E es js gs) (hs : (assignEach (e :: es) X.env).map (·.2) = assign e X.env :: (assignEach es X.env).map (·.2) := by rfl) : RGs X E (e :: es) (is ++ js) (gsCons g gs) := by
  refine ⟨pgs_weak (pgs_cons h1.p h2.p hs) fun vs σ H Q ⟨r, env, st, ds, A, R, P⟩ => ?_⟩
  cases ds with
  | nil => exact P.elim
  | cons d t =>
    rw [Reps] at R
    obtain ⟨y, ys, rfl, R1, R2⟩ := R
    refine ⟨y, ys, rfl, r, env, st, d, A, R1, ?_⟩
    simp only [gsCons] at P
    cases e1 : g d env st with
    | ok env1 st1 =>
      rw [e1, bind_ok] at P
      intro σ' H' r' e' A' sb
      refine ⟨r', env1, st1, t, A', Reps.ext A.so e' _ _ R2, ?_⟩
      have P2 := PostV.later e' P
      cases e2 : gs t env1 st1 with
      | ok env2 st2 =>
        rw [e2] at P2
        exact fun σ2 H2 r2 e3 A3 sb2 => P2 σ2 H2 r2 e3 A3 (sb.trans sb2)
      | ex x st2 => rw [e2] at P2; exact P2
      | stuck => rw [e2] at P2; exact P2
    | ex x st1 => rw [e1] at P; exact P
    | stuck => rw [e1] at P; exact P
/-- a tuple's parts -/
theorem rg_tup {es : List Expr} {k n : Nat} {is : List Nat} {gs : GMs} {pos : Pos} (hc : X.calm = true) (h : RGs X E es is gs)
    (hn : (assignEach es X.env).length = n := by rfl) (hst : (assignEach es X.env).findIdx? (·.1) = none := by rfl) : RG X E (.Tuple es k pos) is (gTp n gs) := by
  refine ⟨pg_weak (pg_tup hc h.p hn hst) fun v σ H Q ⟨r, env, st, d, A, R, P⟩ => ?_⟩
  cases d with
  | tup ds =>
    obtain ⟨a, xs, rfl, h1, h2, h3⟩ := rep_tup.mp R
    have P : PostV X.K X.mg E H r (if ds.length = n then gs ds env st else .stuck) (fun σ' H' => SameBut is σ σ' → Q σ' H') := P
    split at P
    · rename_i hl
      exact ⟨a, xs, rfl, h1, by rw [← Reps.length h3]; exact hl, r, env, st, ds, A, h3, P⟩
    · exact P.elim
  | _ => exact P.elim

/-! ## assignments -/
theorem postS_bindV {K : PySem.W.Frag} {mg : Str → Option Value} {H : Hp} {r : Rg} {res : Res Ev} {D : Ends} {is : List Nat} {σ : L2.St} (h : PostS K mg E H r (res.bind fun env st => .ok (.nx env) st) D) : PostV K mg E H r res fun σ' H' => SameBut is σ σ' → D.nx σ' H' := by
  cases res with
  | ok d st => exact fun σ' H' r' e A _ => h σ' H' r' e A
  | ex x st => exact h
  | stuck => exact h
def sAsg (m : EM) (g : GM) : SM := fun env st => (m env st).bind fun d st1 => (g d env st1).bind fun env2 st2 => .ok (.nx env2) st2
theorem rs_asg {tg e : Expr} {m : EM} {is : List Nat} {g : GM} {pos : Pos} (he : RE X E e m) (hg : RG X E tg is g) (hs : swapsWithSole [tg] e pos.line X.env = pure false := by rfl) (hw : swappedStores [tg] e X.env = pure none := by rfl)
    (h1 : (assignEach [tg] X.env).map (·.2) = [assign tg X.env] := by rfl) : RS X E (.Assign [tg] e pos) (sAsg m g) := by
  refine rs_weak (ps_asg he.p hg.p hs hw h1) fun D σ H r env st A P => ?_
  exact ⟨r, env, st, A, postS_bind P fun d st1 v H1 r1 e1 S1 R1 P1 => ⟨r1, env, st1, d, A.later e1 S1, R1, postS_bindV P1⟩⟩
theorem rs_set {i : Nat} {x : Str} {e : Expr} {m : EM} {pos pos' : Pos} (hN : X.N.Nodup) (hi : X.N[i]? = some x) (hx : Loc X.env.scope x) (he : RE X E e m) (hs : swapsWith e (some (.Name x pos')) pos.line X.env = pure false := by rfl) (hf : X.fn x = true ∨ X.env.scope.names.lookup x = some .local := by first | exact .inl rfl | exact .inr rfl | assumption) :
    RS X E (.Assign [.Name x pos'] e pos) (sAsg m (gNm i)) := by
  refine rs_weak (ps_set hN hi hx he.p hs hf) fun D σ H r env st A P => ?_
  refine ⟨r, env, st, A, postS_bind P fun d st1 v H1 r1 e1 S1 R1 P1 => ?_⟩
  exact PostS.next P1 ((A.later e1 S1).set R1)
def sPar (is : List Nat) (m : AM) : SM := fun env st => (m env st).bind fun ds st1 => if ds.length = is.length then .ok (.nx ((is.zip ds).foldl (fun e p => e.set p.1 (some p.2)) env)) st1 else .stuck
theorem rs_par {i j : Nat} {x y : Str} {a b : Expr} {m : AM} {px py pt pos : Pos} {kt k2 : Nat} {pt2 : Pos} (hc : X.calm = true) (hN : X.N.Nodup) (hi : X.N[i]? = some x) (hj : X.N[j]? = some y) (hij : i ≠ j)
    (hx : X.env.scope.names.lookup x = some .local) (hy : X.env.scope.names.lookup y = some .local) (ha : RA X E [a, b] m)
    (hw : swappedStores [.Tuple [.Name x px, .Name y py] kt pt] (.Tuple [a, b] k2 pt2) X.env = pure (some [x, y]) := by rfl)
    (hs : swapsWithSole [.Tuple [.Name x px, .Name y py] kt pt] (.Tuple [a, b] k2 pt2) pos.line X.env = pure false := by rfl) :
    RS X E (.Assign [.Tuple [.Name x px, .Name y py] kt pt] (.Tuple [a, b] k2 pt2) pos) (sPar [i, j] m) := by
  refine rs_weak (ps_par hc hN hi hj hij hx hy ha.p hw hs) fun D σ H r env st A P => ?_
  refine ⟨r, env, st, A, postS_bind P fun ds st1 vs H1 r1 e1 S1 R1 P1 => ?_⟩
  split at P1
  · rename_i hl
    match ds, hl, R1, P1 with
    | [d, e], _, R1, P1 =>
      have R1 : Reps X.K H1 r1 [d, e] vs := R1
      rw [Reps] at R1
      obtain ⟨v, ys, rfl, q1, R1⟩ := R1
      rw [Reps] at R1
      obtain ⟨w, zs, rfl, q2, R1⟩ := R1
      rw [Reps] at R1
      subst R1
      exact ⟨v, w, rfl, PostS.next P1 (((A.later e1 S1).set q1).set q2)⟩
  · exact P1.elim
theorem rs_par3 {i j l : Nat} {x y z : Str} {a b c : Expr} {m : AM} {px py pz pt pos : Pos} {kt k2 : Nat} {pt2 : Pos} (hc : X.calm = true) (hN : X.N.Nodup) (hi : X.N[i]? = some x) (hj : X.N[j]? = some y) (hl : X.N[l]? = some z) (hij : i ≠ j) (hil : i ≠ l) (hjl : j ≠ l)
    (hx : X.env.scope.names.lookup x = some .local) (hy : X.env.scope.names.lookup y = some .local) (hz : X.env.scope.names.lookup z = some .local) (ha : RA X E [a, b, c] m)
    (hw : swappedStores [.Tuple [.Name x px, .Name y py, .Name z pz] kt pt] (.Tuple [a, b, c] k2 pt2) X.env = pure (some [x, y, z]) := by rfl)
    (hs : swapsWithSole [.Tuple [.Name x px, .Name y py, .Name z pz] kt pt] (.Tuple [a, b, c] k2 pt2) pos.line X.env = pure false := by rfl) :
    RS X E (.Assign [.Tuple [.Name x px, .Name y py, .Name z pz] kt pt] (.Tuple [a, b, c] k2 pt2) pos) (sPar [i, j, l] m) := by
  refine rs_weak (ps_par3 hc hN hi hj hl hij hil hjl hx hy hz ha.p hw hs) fun D σ H r env st A P => ?_
  refine ⟨r, env, st, A, postS_bind P fun ds st1 vs H1 r1 e1 S1 R1 P1 => ?_⟩
  split at P1
  · rename_i hl
    match ds, hl, R1, P1 with
    | [d, e, f], _, R1, P1 =>
      have R1 : Reps X.K H1 r1 [d, e, f] vs := R1
      rw [Reps] at R1
      obtain ⟨v, ys, rfl, q1, R1⟩ := R1
      rw [Reps] at R1
      obtain ⟨w, zs, rfl, q2, R1⟩ := R1
      rw [Reps] at R1
      obtain ⟨u, zs2, rfl, q3, R1⟩ := R1
      rw [Reps] at R1
      subst R1
      exact ⟨v, w, u, rfl, PostS.next P1 ((((A.later e1 S1).set q1).set q2).set q3)⟩
  · exact P1.elim
end
end LB
/- ===== LLoop ===== -/
set_option Elab.async false
set_option linter.all false
set_option maxRecDepth 100000
set_option autoImplicit false
namespace LB
open PySem PySem.Spec PyProof.Rows L2
open Classical in
section
variable {X : Cx} {E : XK}
/-! ## while -/
def whileN (c : BM) (b : SM) : Nat → Ev → Sto → Res Out
  | 0, _, _ => .stuck
  | n + 1, env, st => (c env st).bind fun t st1 => if t then (b env st1).bind fun o st2 => (match o with
      | .nx e => whileN c b n e st2
      | .ct e => whileN c b n e st2
      | .bk e => .ok (.nx e) st2
      | .rt d => .ok (.rt d) st2) else .ok (.nx env) st1
noncomputable def sWhile (c : BM) (b : SM) : SM := fun env st => if h : ∃ n, whileN c b n env st ≠ .stuck then whileN c b (choose h) env st else .stuck
theorem whileN_succ {c : BM} {b : SM} : ∀ (n : Nat) (env : Ev) (st : Sto), whileN c b n env st ≠ .stuck → whileN c b (n + 1) env st = whileN c b n env st
  | 0, _, _, h => absurd rfl h
  | n + 1, env, st, h => by
    rw [whileN] at h
    rw [whileN, whileN]
    cases e : c env st with
    | ok t st1 =>
      rw [e, bind_ok] at h
      rw [bind_ok, bind_ok]
      cases t with
      | false => rfl
      | true =>
        rw [if_pos rfl] at h
        rw [if_pos rfl, if_pos rfl]
        cases e2 : b env st1 with
        | ok o st2 =>
          rw [e2, bind_ok] at h
          rw [bind_ok, bind_ok]
          cases o with
          | nx e3 => exact whileN_succ n _ _ h
          | ct e3 => exact whileN_succ n _ _ h
          | bk e3 => rfl
          | rt d => rfl
        | ex x st2 => rfl
        | stuck => rfl
    | ex x st1 => rfl
    | stuck => rfl
theorem whileN_le {c : BM} {b : SM} {n m : Nat} {env : Ev} {st : Sto} (h : whileN c b n env st ≠ .stuck) (hm : n ≤ m) : whileN c b m env st = whileN c b n env st := by
  induction hm with
  | refl => rfl
  | step _ ih => rw [whileN_succ _ _ _ (by rw [ih]; exact h), ih]
theorem sWhile_eq {c : BM} {b : SM} {n : Nat} {env : Ev} {st : Sto} (h : whileN c b n env st ≠ .stuck) : sWhile c b env st = whileN c b n env st := by
  have hx : ∃ n, whileN c b n env st ≠ .stuck := ⟨n, h⟩
  unfold sWhile
  rw [dif_pos hx]
  have h2 := choose_spec hx
  rcases Nat.le_total n (choose hx) with q | q
  · exact whileN_le h q
  · exact (whileN_le h2 q).symm
theorem rs_while {c : Expr} {body : List Stmt} {mc : BM} {mb : SM} {pos : Pos} (hp : PassesOwn (model X.prog X.w) X.A X.env X.xe) (hc : RT X E c mc) (hb : RB X E body mb) : RS X E (.While c body [] pos) (sWhile mc mb) := by
  refine rs_weak (ps_while hp hc.p hb.p) fun D σ H r env st A P => ?_
  refine ⟨fun m σ H => ∃ r env st, Abs X.K X.mg H r σ env st ∧ PostS X.K X.mg E H r (whileN mc mb m env st) D, ?_, fun m σ H ⟨r, env, st, A, P⟩ => ?_⟩
  · by_cases hx : ∃ n, whileN mc mb n env st ≠ .stuck
    · obtain ⟨n, hn⟩ := hx
      rw [sWhile_eq hn] at P
      exact ⟨n, r, env, st, A, P⟩
    · unfold sWhile at P
      rw [dif_neg hx] at P
      exact P.elim
  · cases m with
    | zero => exact P.elim
    | succ n =>
      rw [whileN] at P
      refine ⟨r, env, st, A, postS_bind P fun t st1 v H1 r1 e1 S1 R1 P1 => ?_⟩
      have R1 : v = t := R1
      subst R1
      cases v with
      | false =>
        rw [if_neg Bool.false_ne_true] at P1
        exact PostS.next P1 (A.later e1 S1)
      | true =>
        rw [if_pos rfl] at P1
        rw [if_pos rfl]
        refine ⟨fun σ H => ∃ r env st, Abs X.K X.mg H r σ env st ∧ PostS X.K X.mg E H r (whileN mc mb n env st) D, fun σ' H' q => ⟨n, Nat.lt_succ_self n, q⟩, ?_⟩
        refine ⟨r1, env, st1, A.later e1 S1, ?_⟩
        cases e2 : mb env st1 with
        | ok o st2 =>
          rw [e2, bind_ok] at P1
          cases o with
          | nx e3 => exact fun σ' H' r' e' A' => ⟨r', e3, st2, A', PostS.later e' P1⟩
          | ct e3 => exact fun σ' H' r' e' A' => ⟨r', e3, st2, A', PostS.later e' P1⟩
          | bk e3 => exact P1
          | rt d => exact P1
        | ex x st2 => rw [e2] at P1; exact P1
        | stuck => rw [e2] at P1; exact P1

/-! ## what is walked -/
/-- the items, and (where a list of the store is walked) what must stay there -/
structure Its where
  xs : List D
  gd : List (Nat × List D)
def Its.Gd (t : Its) (st : Sto) : Prop := ∀ p ∈ t.gd, st[p.1]? = some (.lst p.2)
theorem gd_nil {xs : List D} {st : Sto} : (Its.mk xs []).Gd st := fun _ h => nomatch h
abbrev IM := Ev → Sto → Res Its
def JOk (K : PySem.W.Frag) (mg : Str → Option Value) (H : Hp) (r : Rg) (t : Its) (J : It) : Prop :=
  ∀ H' r' st', Ext r H r' H' → StOk K mg H' r' st' → t.Gd st' →
    (∀ (i : Nat) (d : D), t.xs[i]? = some d → J.go i H' ∧ ∀ x H2, J.yld i H' x H2 → Ext r' H' r' H2 ∧ StOk K mg H2 r' st' ∧ Rep K H2 r' d x) ∧ J.stop t.xs.length H'
abbrev relI (K : PySem.W.Frag) (mg : Str → Option Value) : Hp → Rg → Its → It → Prop := fun H r t J => JOk K mg H r t J
def rdI (X : Cx) (E : XK) (m : IM) : TI := fun σ H R => ∃ r env st, Abs X.K X.mg H r σ env st ∧ Post (relI X.K X.mg) X.K X.mg E H r (m env st) R
structure RI (X : Cx) (E : XK) (tg iter : Expr) (m : IM) : Prop where
  p : PI X tg iter (rdI X E m)
theorem pi_weak {tg e : Expr} {t t' : TI} (h : PI X tg e t) (w : ∀ σ H R, t' σ H R → t σ H R) : PI X tg e t' := ⟨fun pins s σ H R I q => h.run pins s σ H R I (w _ _ _ q)⟩
theorem pi_or {tg e : Expr} {t t' : TI} (h : PI X tg e t) (h' : PI X tg e t') : PI X tg e (fun σ H R => t σ H R ∨ t' σ H R) :=
  ⟨fun pins s σ H R I q => q.elim (h.run pins s σ H R I) (h'.run pins s σ H R I)⟩
theorem JOk.later {K : PySem.W.Frag} {mg : Str → Option Value} {H H1 : Hp} {r r1 : Rg} {t : Its} {J : It} (e : Ext r H r1 H1) (h : JOk K mg H r t J) : JOk K mg H1 r1 t J :=
  fun H' r' st' e' => h H' r' st' (e.trans e')

/-! ## for -/
noncomputable def forM (t : Its) (g : GM) (b : SM) : List D → Ev → Sto → Res Out
  | [], env, st => if t.Gd st then .ok (.nx env) st else .stuck
  | d :: ds, env, st => if t.Gd st then (g d env st).bind fun env1 st1 => (b env1 st1).bind fun o st2 => (match o with
      | .nx e => forM t g b ds e st2
      | .ct e => forM t g b ds e st2
      | .bk e => .ok (.nx e) st2
      | .rt d => .ok (.rt d) st2) else .stuck
noncomputable def sFor (m : IM) (g : GM) (b : SM) : SM := fun env st => (m env st).bind fun t st1 => forM t g b t.xs env st1
theorem rs_for {tg iter : Expr} {body : List Stmt} {mi : IM} {is : List Nat} {g : GM} {mb : SM} {pos : Pos} (hp : PassesOwn (model X.prog X.w) X.A X.env X.xe) (hc : X.calm = true) (hi : RI X E tg iter mi) (hg : RG X E tg is g) (hb : RB X E body mb)
    (hs : ∀ x, foldedSetIterable iter X.env x = pure x := by intro _; rfl) : RS X E (.For tg iter body [] pos) (sFor mi g mb) := by
  refine rs_weak (ps_for hp hc hi.p hg.p hb.p hs) fun D σ H r env st A P => ?_
  refine ⟨r, env, st, A, postS_bind P fun t st1 J H1 r1 e1 S1 R1 P1 => ?_⟩
  have R1 : JOk X.K X.mg H1 r1 t J := R1
  refine ⟨fun i m σ H => m + i = t.xs.length ∧ ∃ r env st, Abs X.K X.mg H r σ env st ∧ Ext r1 H1 r H ∧ PostS X.K X.mg E H r (forM t g mb (t.xs.drop i) env st) D, ⟨t.xs.length, rfl, r1, env, st1, A.later e1 S1, Ext.refl _ _, P1⟩, ?_⟩
  rintro i m σ2 H2 ⟨hm, r2, env2, st2, A2, e2, P2⟩
  have hgd : t.Gd st2 := by
    cases q : t.xs.drop i with
    | nil =>
      rw [q, forM] at P2
      split at P2
      · assumption
      · exact P2.elim
    | cons d ds =>
      rw [q, forM] at P2
      split at P2
      · assumption
      · exact P2.elim
  obtain ⟨h1, h2⟩ := R1 H2 r2 st2 e2 A2.so hgd
  by_cases hlt : i < t.xs.length
  · have hx : t.xs[i]? = some t.xs[i] := List.getElem?_eq_getElem hlt
    obtain ⟨h3, h4⟩ := h1 i _ hx
    rw [List.drop_eq_getElem_cons hlt, forM, if_pos hgd] at P2
    refine .inr ⟨h3, fun σ' H' => ∃ r env st, Abs X.K X.mg H' r σ' env st ∧ Ext r1 H1 r H' ∧ PostS X.K X.mg E H' r (forM t g mb (t.xs.drop (i + 1)) env st) D, fun σ' H' q => ⟨m - 1, by omega, by omega, q⟩, fun x H3 y => ?_⟩
    obtain ⟨e3, S3, R3⟩ := h4 x H3 y
    refine ⟨r2, env2, st2, t.xs[i], A2.later e3 S3, R3, ?_⟩
    have P3 := PostS.later e3 P2
    cases q : g t.xs[i] env2 st2 with
    | ok env3 st3 =>
      rw [q, bind_ok] at P3
      intro σ4 H4 r4 e4 A4 _
      refine ⟨r4, env3, st3, A4, ?_⟩
      have P4 := PostS.later e4 P3
      have e14 := (e2.trans e3).trans e4
      cases q5 : mb env3 st3 with
      | ok o st5 =>
        rw [q5, bind_ok] at P4
        cases o with
        | nx e5 => exact fun σ' H' r' e' A' => ⟨r', e5, st5, A', e14.trans e', PostS.later e' P4⟩
        | ct e5 => exact fun σ' H' r' e' A' => ⟨r', e5, st5, A', e14.trans e', PostS.later e' P4⟩
        | bk e5 => exact P4
        | rt d => exact P4
      | ex x st5 => rw [q5] at P4; exact P4
      | stuck => rw [q5] at P4; exact P4
    | ex x st3 => rw [q] at P3; exact P3
    | stuck => rw [q] at P3; exact P3
  · have hi : i = t.xs.length := by omega
    subst hi
    rw [List.drop_length, forM, if_pos hgd] at P2
    exact .inl ⟨h2, PostS.next P2 A2⟩
/-- the loop over things that cannot change -/
theorem forM_nil {xs : List D} {g : GM} {b : SM} {env : Ev} {st : Sto} : forM ⟨xs, []⟩ g b [] env st = .ok (.nx env) st := by
  rw [forM, if_pos gd_nil]
theorem forM_cons {xs : List D} {g : GM} {b : SM} {d : D} {ds : List D} {env : Ev} {st : Sto} : forM ⟨xs, []⟩ g b (d :: ds) env st = (g d env st).bind fun env1 st1 => (b env1 st1).bind fun o st2 => (match o with
      | .nx e => forM ⟨xs, []⟩ g b ds e st2
      | .ct e => forM ⟨xs, []⟩ g b ds e st2
      | .bk e => .ok (.nx e) st2
      | .rt d => .ok (.rt d) st2) := by
  rw [forM, if_pos gd_nil]

/-! ### walked things -/
/-- a tuple, a list -/
def iSeq (m : EM) : IM := fun env st => (m env st).bind fun d st1 => match d with
  | .tup ds => .ok ⟨ds, []⟩ st1
  | .lst ds => .ok ⟨ds, []⟩ st1
  | .str x => .ok ⟨x.cps.toList.map fun c => D.str ⟨#[c]⟩, []⟩ st1
  | .ref n => match st1[n]? with
    | some (.lst ds) => .ok ⟨ds, [(n, ds)]⟩ st1
    | _ => .stuck
  | _ => .stuck
section
variable {K : PySem.W.Frag} {mg : Str → Option Value} {H : Hp} {r : Rg} {st : Sto}
theorem jok_tup {ds : List D} {a : Addr} {xs : List V} (S : StOk K mg H r st) (h2 : SqT K H a xs) (h4 : Reps K H r ds xs) : JOk K mg H r ⟨ds, []⟩ (Itt K a) := by
  intro H' r' st' e S' _
  have q2 := SqT.ext S e h2
  have q4 := Reps.ext S e _ _ h4
  refine ⟨fun i d hd => ?_, xs, q2, by rw [← Reps.length q4]; exact Nat.le_refl _⟩
  obtain ⟨v, hv, R⟩ := Reps.get q4 hd
  refine ⟨⟨xs, v, q2, hv⟩, fun x H2 ⟨y1, y2⟩ => ?_⟩
  subst y1
  have y3 := y2 xs q2
  rw [hv] at y3; cases y3
  exact ⟨Ext.refl _ _, S', R⟩
theorem jok_lst {ds : List D} {a : Addr} {xs : List V} (S : StOk K mg H r st) (hn : a ∉ r.l) (h2 : H a = some (.lst xs)) (h4 : Reps K H r ds xs) : JOk K mg H r ⟨ds, []⟩ (Itl K a) := by
  intro H' r' st' e S' _
  have q2 : SqL K H' a xs := SqL.of (e.keep _ _ hn h2)
  have q4 := Reps.ext S e _ _ h4
  refine ⟨fun i d hd => ?_, xs, q2, by rw [← Reps.length q4]; exact Nat.le_refl _⟩
  obtain ⟨v, hv, R⟩ := Reps.get q4 hd
  refine ⟨⟨xs, v, q2, hv⟩, fun x H2 ⟨y1, y2⟩ => ?_⟩
  subst y1
  have y3 := y2 xs q2
  rw [hv] at y3; cases y3
  exact ⟨Ext.refl _ _, S', R⟩
theorem jok_str {z : Str} (S : StOk K mg H r st) : JOk K mg H r ⟨z.cps.toList.map fun c => D.str ⟨#[c]⟩, []⟩ (L2.Its z) := by
  intro H' r' st' e S' _
  refine ⟨fun i d hd => ?_, by show z.cps.size ≤ _; simp⟩
  simp only [List.getElem?_map] at hd
  cases q : z.cps.toList[i]? with
  | none => rw [q] at hd; cases hd
  | some c =>
    rw [q] at hd; cases hd
    obtain ⟨h1, h2⟩ := List.getElem?_eq_some_iff.mp q
    refine ⟨(show i < z.cps.size by simpa using h1), fun x H2 ⟨y1, c', y2, y3⟩ => ?_⟩
    subst y1 y3
    have e2 : z.cps[i]? = some c := by rw [← Array.getElem?_toList]; exact q
    rw [e2] at y2; cases y2
    exact ⟨Ext.refl _ _, S', rep_str.mpr rfl⟩
theorem jok_ref {ds : List D} {n : Nat} {a : Addr} (h : r.l[n]? = some a) : JOk K mg H r ⟨ds, [(n, ds)]⟩ (Itl K a) := by
  intro H' r' st' e S' hg
  obtain ⟨xs, q1, _, q4⟩ := S'.ob n a _ (e.pre n a h) (hg _ (List.mem_singleton.mpr rfl))
  have q2 : SqL K H' a xs := SqL.of q1
  refine ⟨fun i d hd => ?_, xs, q2, by rw [← Reps.length q4]; exact Nat.le_refl _⟩
  obtain ⟨v, hv, R⟩ := Reps.get q4 hd
  refine ⟨⟨xs, v, q2, hv⟩, fun x H2 ⟨y1, y2⟩ => ?_⟩
  subst y1
  have y3 := y2 xs q2
  rw [hv] at y3; cases y3
  exact ⟨Ext.refl _ _, S', R⟩
end
theorem ri_seq {tg e : Expr} {m : EM} (h : RE X E e m) : RI X E tg e (iSeq m) := by
  -- a tuple or a list: which of them is told by the value
  refine ⟨⟨fun pins s σ H R I q => ?_⟩⟩
  obtain ⟨r, env, st, A, P⟩ := q
  have hw : PI X tg e (fun σ H R => rdE X E m σ H fun x H1 => (∃ a, x = .ref a ∧ (∃ xs, SqT X.K H1 a xs) ∧ R (Itt X.K a) H1) ∨ (∃ a, x = .ref a ∧ (∃ xs, SqL X.K H1 a xs) ∧ R (Itl X.K a) H1) ∨ (∃ z, x = .str z ∧ R (L2.Its z) H1)) := by
    refine ⟨fun pins s σ H R I h1 => ?_⟩
    refine thn (h.p.run pins s σ H _ I h1) fun v s1 ⟨x, H1, I1, r1, q1⟩ => ?_
    rcases q1 with ⟨a, e, ⟨xs, hq⟩, q⟩ | ⟨a, e, ⟨xs, hq⟩, q⟩ | ⟨z, e, q⟩
    · subst e
      cases r1
      obtain ⟨its, rv, p, hz⟩ := I1.tuple hq
      refine wpAny_pyIter_tuple (show s1.heap.IsTuple a its.toArray from p) ?_
      refine ⟨s1.heap.objs.size, [s1.heap.objs.size], _, _, H1, rfl, I1.kept (t' := s1.toks) fun b o e => Heap.get?_push_of_some _ e, turn_tuple a _, ⟨_, Heap.get?_push_size _ rfl, rfl, rfl⟩, fun b hb => ?_, q⟩
      have e : b = s1.heap.objs.size := by simpa using hb
      subst e
      exact I1.fpOk (Nat.le_refl _) (I1.hok.fresh (Nat.le_refl _))
    · subst e
      cases r1
      obtain ⟨its, rv, p, hz⟩ := I1.list hq
      refine wpAny_pyIter_list p.isList ?_
      refine ⟨s1.heap.objs.size, [s1.heap.objs.size], _, _, H1, rfl, I1.kept (t' := s1.toks) fun b o e => Heap.get?_push_of_some _ e, turn_list a _, ⟨_, Heap.get?_push_size _ rfl, rfl, rfl⟩, fun b hb => ?_, q⟩
      have e : b = s1.heap.objs.size := by simpa using hb
      subst e
      exact I1.fpOk (Nat.le_refl _) (I1.hok.fresh (Nat.le_refl _))
    · subst e
      obtain ⟨t, rfl⟩ := r1
      cases ha : z.cps.all (· < 128)
      · exact wpAny_pyIter_wide ha (pi_one (tk := s1.toks) I1 _ (turn_str _ z t "str_iterator" (.inr rfl)) ⟨_, Heap.get?_push_size _ rfl, rfl, rfl⟩ q)
      · exact wpAny_pyIter_ascii ha (pi_one (tk := s1.toks) I1 _ (turn_str _ z t "str_ascii_iterator" (.inl rfl)) ⟨_, Heap.get?_push_size _ rfl, rfl, rfl⟩ q)
  refine hw.run pins s σ H R I ⟨r, env, st, A, post_bind P fun d st1 v H1 r1 e1 S1 R1 P1 => ?_⟩
  cases d with
  | tup ds =>
    obtain ⟨a, xs, rfl, h2, h3, h4⟩ := rep_tup.mp R1
    exact .inl ⟨a, rfl, ⟨xs, h2⟩, P1.here S1 (jok_tup S1 h2 h4)⟩
  | lst ds =>
    obtain ⟨a, xs, rfl, hn, _, h2, h3, h4⟩ := rep_lst.mp R1
    exact .inr (.inl ⟨a, rfl, ⟨xs, SqL.of h2⟩, P1.here S1 (jok_lst S1 hn h2 h4)⟩)
  | str z => exact .inr (.inr ⟨z, rep_str.mp R1, P1.here S1 (jok_str S1)⟩)
  | ref n =>
    obtain ⟨a, rfl, h2⟩ := rep_ref.mp R1
    obtain ⟨o, eo, q⟩ := S1.there h2
    simp only [eo] at P1
    cases o with
    | lst ds =>
      obtain ⟨xs, q1, _, _⟩ := q
      exact .inr (.inl ⟨a, rfl, ⟨xs, SqL.of q1⟩, P1.here S1 (jok_ref h2)⟩)
    | _ => exact P1.elim
  | _ => exact P1.elim
/-- range(n) -/
def iRange (m : EM) : IM := fun env st => (m env st).bind fun d st1 => match d with
  | .int n => if -(2 ^ 62) ≤ n ∧ n < 2 ^ 62 then .ok ⟨(List.range n.toNat).map fun i : Nat => D.int (i : Int), []⟩ st1 else .stuck
  | _ => .stuck
theorem ri_range {tg a : Expr} {m : EM} {p pos : Pos} (hg : Gl X "range") (hm : X.mg "range" = none) (h : RE X E a m) (hs : starEach [a] X.env = [(false, eval a X.env)] := by rfl) : RI X E tg (.Call (.Name "range" p) [a] [] pos) (iRange m) := by
  have ha : PA X [a] (tCons (rdE X E m) tNil) := pa_cons h.p pa_nil (by rw [hs]; rfl)
  refine ⟨pi_weak (pi_range1 hg hm ha hs) fun σ H R ⟨r, env, st, A, P⟩ => ?_⟩
  refine ⟨r, env, st, A, post_bind P fun d st1 v H1 r1 e1 S1 R1 P1 => ?_⟩
  cases d with
  | int n =>
    simp only at P1
    split at P1
    · rename_i hn
      refine ⟨n, by rw [rep_int.mp R1], hn.1, hn.2, P1.here S1 ?_⟩
      intro H' r' st' e S' _
      refine ⟨fun i d hd => ?_, ?_⟩
      · simp only [List.getElem?_map] at hd
        cases q : (List.range n.toNat)[i]? with
        | none => rw [q] at hd; cases hd
        | some j =>
          rw [q] at hd
          have hj := List.getElem?_eq_some_iff.mp q
          obtain ⟨h1, h2⟩ := hj
          rw [List.getElem_range] at h2
          subst h2
          simp only [Option.map_some, Option.some.injEq] at hd
          subst hd
          refine ⟨(show i < n.toNat by simpa using h1), fun x H2 ⟨y1, y2⟩ => ?_⟩
          subst y1 y2
          exact ⟨Ext.refl _ _, S', rep_int.mpr (by simp)⟩
      · show n.toNat ≤ _
        simp
    · exact P1.elim
  | _ => exact P1.elim
end
end LB
/- ===== LComp ===== -/
set_option Elab.async false
set_option linter.all false
set_option maxRecDepth 100000
set_option autoImplicit false
namespace LB
open PySem PySem.Spec PyProof.Rows L2
open Classical in
section
variable {X : Cx} {E : XK}
/-! ## list comprehensions -/
def wipeE (env : Ev) : List Nat → Ev
  | [] => env
  | v :: vs => (wipeE env vs).set v none
section
variable {K : PySem.W.Frag} {mg : Str → Option Value} {H : Hp} {r : Rg} {σ : L2.St} {env : Ev} {st : Sto}
theorem Abs.unset (A : Abs K mg H r σ env st) (i : Nat) : Abs K mg H r (σ.set i none) (env.set i none) st := by
  refine ⟨A.so, by rw [List.length_set, List.length_set]; exact A.len, fun j x hx => ?_⟩
  by_cases hj : i = j
  · subst hj
    by_cases hl : i < env.length
    · rw [List.getElem?_set_self hl] at hx; cases hx
    · rw [List.getElem?_eq_none (by rw [List.length_set]; omega)] at hx; cases hx
  · rw [List.getElem?_set_ne hj] at hx ⊢
    exact A.sl j x hx
theorem Abs.wipe (A : Abs K mg H r σ env st) : ∀ vs : List Nat, Abs K mg H r (L2.wipe σ vs) (wipeE env vs) st
  | [] => A
  | v :: vs => by
    show Abs K mg H r ((L2.wipe σ vs).set v none) ((wipeE env vs).set v none) st
    exact (A.wipe vs).unset v
end
def noEx {α : Type} : Res α → Res α
  | .ex _ _ => .stuck
  | x => x
@[simp] theorem noEx_ok {α : Type} (a : α) (st : Sto) : noEx (Res.ok a st) = .ok a st := rfl
noncomputable def compM (t : Its) (g : GM) (c : BM) (e : EM) : List D → Ev → Sto → Res (List D)
  | [], _, st => if t.Gd st then .ok [] st else .stuck
  | d :: ds, env, st => if t.Gd st then (noEx (g d env st)).bind fun env1 st1 => (noEx (c env1 st1)).bind fun b st2 =>
      if b then (noEx (e env1 st2)).bind fun y st3 => (compM t g c e ds env st3).bind fun ys st4 => .ok (y :: ys) st4 else compM t g c e ds env st2
    else .stuck
noncomputable def aLc (mi : IM) (vs : List Nat) (g : GM) (c : BM) (e : EM) : AM := fun env st => (mi env st).bind fun t st1 => if t.xs.length ≤ sizeLine then compM t g c e t.xs (wipeE env vs) st1 else .stuck
noncomputable def cLc (mi : IM) (vs : List Nat) (g : GM) (c : BM) (e : EM) : EM := fun env st => (aLc mi vs g c e env st).bind fun ys st1 => .ok (.lst ys) st1
noncomputable def cNewLc (mi : IM) (vs : List Nat) (g : GM) (c : BM) (e : EM) : EM := fun env st => (aLc mi vs g c e env st).bind fun ys st1 => .ok (.ref st1.length) (st1 ++ [.lst ys])
def bYes : BM := fun _ st => .ok true st
/-- how the finished list is seen at the end -/
def FinL (K : PySem.W.Frag) (mg : Str → Option Value) (H1 : Hp) (r1 : Rg) (ys : List D) (st : Sto) (Q : VK) : Prop :=
  ∀ D H r xs, H1 D = none → Ext r1 H1 r H → StOk K mg H r st → D ∉ r.l → D ∈ r.b → D ∉ r1.b → H D = some (.lst xs) → xs.length ≤ sizeLine → Reps K H r ys xs → Q (.ref D) H
theorem wipe_wipe (σ : L2.St) : ∀ vs : List Nat, wipe (wipe σ vs) vs = wipe σ vs := fun vs => by
  have h : ∀ us : List Nat, (∀ i ∈ us, i ∈ vs) → wipe (wipe σ us) vs = wipe σ vs := by
    intro us
    induction us with
    | nil => intro _; rfl
    | cons u us ih =>
      intro hs
      show wipe ((wipe σ us).set u none) vs = wipe σ vs
      rw [wipe_set vs _ u none (hs u List.mem_cons_self), ih fun i hi => hs i (List.mem_cons_of_mem _ hi)]
  exact h vs fun _ h => h
structure RTs (X : Cx) (E : XK) (ifs : List Expr) (m : BM) : Prop where
  p : PTs X ifs (rdT X E m)
theorem rts_nil : RTs X E [] bYes := ⟨⟨fun pins s σ H Q I ⟨r, env, st, A, P⟩ => (pts_nil (X := X)).run pins s σ H Q I (P.here A.so rfl)⟩⟩
theorem rts_one {c : Expr} {m : BM} (h : RT X E c m) : RTs X E [c] m := ⟨pts_one h.p⟩
theorem compM_noex {t : Its} {g : GM} {c : BM} {e : EM} {x : Ex} {st' : Sto} : ∀ (ds : List D) (env : Ev) (st : Sto), compM t g c e ds env st ≠ .ex x st'
  | [], env, st => by
    rw [compM]
    split <;> exact fun h => nomatch h
  | d :: ds, env, st => by
    rw [compM]
    split
    · cases q : g d env st with
      | stuck => exact fun h => nomatch h
      | ex y st2 => exact fun h => nomatch h
      | ok env1 st1 =>
        rw [noEx_ok, bind_ok]
        cases q2 : c env1 st1 with
        | stuck => exact fun h => nomatch h
        | ex y st2 => exact fun h => nomatch h
        | ok b st2 =>
          rw [noEx_ok, bind_ok]
          cases b with
          | false =>
            rw [if_neg Bool.false_ne_true]
            exact compM_noex ds env st2
          | true =>
            rw [if_pos rfl]
            cases q3 : e env1 st2 with
            | stuck => exact fun h => nomatch h
            | ex y st2 => exact fun h => nomatch h
            | ok y st3 =>
              rw [noEx_ok, bind_ok]
              cases q4 : compM t g c e ds env st3 with
              | stuck => exact fun h => nomatch h
              | ex z st4 => exact absurd q4 (compM_noex ds env st3)
              | ok ys st4 => exact fun h => nomatch h
    · exact fun h => nomatch h
theorem lc_run {mi : IM} {is vs : List Nat} {g : GM} {c : BM} {e : EM} {σ : L2.St} {H : Hp} {Q : VK} {r : Rg} {env : Ev} {st : Sto} (hv : ∀ i ∈ is, i ∈ vs) (A : Abs X.K X.mg H r σ env st)
    (P : ∀ Q1 : It → Hp → Prop, (∀ t st1 J H1 r1, Ext r H r1 H1 → StOk X.K X.mg H1 r1 st1 → JOk X.K X.mg H1 r1 t J → t.xs.length ≤ sizeLine →
        (∃ ys st2, compM t g c e t.xs (wipeE env vs) st1 = .ok ys st2 ∧ FinL X.K X.mg H1 r1 ys st2 Q) → Q1 J H1) → Post (relI X.K X.mg) X.K X.mg E H r (mi env st) Q1) :
    tLc (rdI X E mi) (rdG X E0 is g) (rdT X E0 c) (rdE X E0 e) vs σ H Q := by
  refine ⟨r, env, st, A, P _ fun t st1 J H1 r1 e1 S1 J1 hl ⟨ys, st2, hc, F⟩ => ?_⟩
  intro D hD
  have A1 := (A.later e1 S1).wipe vs
  have hDl : D ∉ r1.l := fun hm => by
    obtain ⟨u, hu⟩ := S1.mem hm
    rw [hD] at hu; cases hu
  have hDb : D ∉ r1.b := fun hm => by
    obtain ⟨u, hu⟩ := S1.bt D hm
    rw [hD] at hu; cases hu
  have A1' : Abs X.K X.mg (upd H1 D (.lst [])) (r1.ban D) (L2.wipe σ vs) (wipeE env vs) st1 := A1.later (ext_ban hD) (S1.toBan hD)
  -- what is made so far, and what is to come
  refine ⟨fun i m H => m + i = t.xs.length ∧ ∃ r st acc ds zs, Ext r1 H1 r H ∧ Abs X.K X.mg H r (L2.wipe σ vs) (wipeE env vs) st ∧ D ∉ r.l ∧ (∃ b0, r.b = D :: b0) ∧ H D = some (.lst acc) ∧ acc.length ≤ i ∧ Reps X.K H r ds acc ∧ compM t g c e (t.xs.drop i) (wipeE env vs) st = .ok zs st2 ∧ ds ++ zs = ys,
    ⟨t.xs.length, rfl, r1.ban D, st1, [], [], ys, ext_ban hD, A1', hDl, ⟨_, rfl⟩, upd_same, Nat.zero_le _, Reps.nil, hc, rfl⟩, ?_⟩
  rintro i m H2 ⟨hm, r2, st3, acc, ds, zs, e2, A2, hn, hb2, hDa, hla, hR, hcm, hy⟩
  have hgd : t.Gd st3 := by
    cases q : t.xs.drop i with
    | nil =>
      rw [q, compM] at hcm
      split at hcm
      · assumption
      · cases hcm
    | cons d ds =>
      rw [q, compM] at hcm
      split at hcm
      · assumption
      · cases hcm
  obtain ⟨h1, h2⟩ := J1 H2 r2 st3 e2 A2.so hgd
  by_cases hlt : i < t.xs.length
  · have hx : t.xs[i]? = some t.xs[i] := List.getElem?_eq_getElem hlt
    obtain ⟨h3, h4⟩ := h1 i _ hx
    rw [List.drop_eq_getElem_cons hlt, compM, if_pos hgd] at hcm
    refine .inr ⟨h3, fun H => ∃ r st acc ds zs, Ext r1 H1 r H ∧ Abs X.K X.mg H r (L2.wipe σ vs) (wipeE env vs) st ∧ D ∉ r.l ∧ (∃ b0, r.b = D :: b0) ∧ H D = some (.lst acc) ∧ acc.length ≤ i + 1 ∧ Reps X.K H r ds acc ∧ compM t g c e (t.xs.drop (i + 1)) (wipeE env vs) st = .ok zs st2 ∧ ds ++ zs = ys,
      fun H' q => ⟨m - 1, by omega, by omega, q⟩, fun x H3 y => ?_⟩
    obtain ⟨e3, S3, R3⟩ := h4 x H3 y
    have hD3 : H3 D = some (.lst acc) := e3.keep _ _ hn hDa
    refine ⟨r2, wipeE env vs, st3, t.xs[i], A2.later e3 S3, R3, ?_⟩
    cases q : g t.xs[i] (wipeE env vs) st3 with
    | stuck => rw [q] at hcm; cases hcm
    | ex x st4 => rw [q] at hcm; cases hcm
    | ok env4 st4 =>
      rw [q, noEx_ok, bind_ok] at hcm
      intro σ4 H4 r4 e4 A4 sb
      have e24 := e3.trans e4
      have hD4 : H4 D = some (.lst acc) := e4.keep _ _ hn hD3
      have hn4 : D ∉ r4.l := fun hm => by
        have := e4.new D hm hn
        rw [hD3] at this; cases this
      refine ⟨by rw [sb vs hv, wipe_wipe], r4, env4, st4, A4, ?_⟩
      cases q5 : c env4 st4 with
      | stuck => rw [q5] at hcm; cases hcm
      | ex x st5 => rw [q5] at hcm; cases hcm
      | ok b st5 =>
        rw [q5, noEx_ok, bind_ok] at hcm
        intro b' H5 r5 e5 S5 Rb
        have Rb : b' = b := Rb
        subst Rb
        have e25 := e24.trans e5
        have hD5 : H5 D = some (.lst acc) := e5.keep _ _ hn4 hD4
        have hn5 : D ∉ r5.l := fun hm => by
          have := e5.new D hm hn4
          rw [hD4] at this; cases this
        -- the bans are those of this turn's begin
        have norm : ∀ {r : Rg} {H : Hp} {st : Sto}, Ext r2 H2 r H → StOk X.K X.mg H r st → Ext r2 H2 ⟨r.l, r2.b⟩ H ∧ StOk X.K X.mg H ⟨r.l, r2.b⟩ st := fun {r H st} e S =>
          ⟨⟨e.pre, fun _ h => h, fun _ h n => absurd h n, e.new, e.keep⟩, StOk.less e.bsub S⟩
        cases b' with
        | false =>
          rw [if_neg Bool.false_ne_true] at hcm ⊢
          obtain ⟨e25', S5'⟩ := norm e25 S5
          exact ⟨⟨r5.l, r2.b⟩, st5, acc, ds, zs, e2.trans e25', A2.later e25' S5', hn5, hb2, hD5, by omega, Reps.ext A2.so e25' _ _ hR, hcm, hy⟩
        | true =>
          rw [if_pos rfl] at hcm ⊢
          refine ⟨r5, env4, st5, A4.later e5 S5, ?_⟩
          cases q6 : e env4 st5 with
          | stuck => rw [q6] at hcm; cases hcm
          | ex x st6 => rw [q6] at hcm; cases hcm
          | ok y6 st6 =>
            rw [q6, noEx_ok, bind_ok] at hcm
            intro v6 H6 r6 e6 S6 R6
            have e26 := e25.trans e6
            have hD6 : H6 D = some (.lst acc) := e6.keep _ _ hn5 hD5
            have hn6 : D ∉ r6.l := fun hm => by
              have := e6.new D hm hn5
              rw [hD5] at this; cases this
            refine ⟨acc, hD6, by omega, ?_⟩
            cases q7 : compM t g c e (t.xs.drop (i + 1)) (wipeE env vs) st6 with
            | stuck => rw [q7] at hcm; cases hcm
            | ex x st7 => rw [q7] at hcm; cases hcm
            | ok ys7 st7 =>
              rw [q7, bind_ok] at hcm
              cases hcm
              obtain ⟨b0, hb0⟩ := hb2
              obtain ⟨e26', S6'⟩ := norm e26 S6
              have R6' : Rep X.K H6 ⟨r6.l, r2.b⟩ y6 v6 := Rep.move (mv_less e26.bsub) _ _ R6
              rw [hb0] at e26' S6' R6'
              -- the hidden list grows
              have A6 : Abs X.K X.mg H6 (Rg.ban ⟨r6.l, b0⟩ D) (L2.wipe σ vs) (wipeE env vs) st6 := A2.later e26' S6'
              refine ⟨Rg.ban ⟨r6.l, b0⟩ D, st6, acc ++ [v6], ds ++ [y6], ys7, (e2.trans e26').hid hD, ⟨A6.so.hid hn6 hD6, A6.len, fun i d h => ?_⟩, hn6, ⟨b0, rfl⟩, upd_same, ?_, ?_, q7, by rw [List.append_assoc]; exact hy⟩
              · obtain ⟨v, q1, q2⟩ := A6.sl i d h
                exact ⟨v, q1, Rep.hid hD6 d v q2⟩
              · rw [List.length_append]
                show acc.length + 1 ≤ i + 1
                omega
              · exact Reps.append (Reps.hid hD6 _ _ (Reps.ext A2.so e26' _ _ hR)) (Reps.cons (Rep.hid hD6 _ _ R6') Reps.nil)
  · have hi : i = t.xs.length := by omega
    subst hi
    rw [List.drop_length, compM, if_pos hgd] at hcm
    cases hcm
    rw [List.append_nil] at hy
    subst hy
    obtain ⟨b0, hb0⟩ := hb2
    exact .inl ⟨h2, F D H2 r2 acc hD e2 A2.so hn (by rw [hb0]; exact List.mem_cons_self) hDb hDa (by omega) hR⟩

theorem ext_less {r1 r : Rg} {H1 H : Hp} (e : Ext r1 H1 r H) : Ext r1 H1 ⟨r.l, r1.b⟩ H := ⟨e.pre, fun _ h => h, fun _ h n => absurd h n, e.new, e.keep⟩
theorem fin_val {H1 : Hp} {r1 : Rg} {ys : List D} {st : Sto} {Q : VK} (P : Post (relD X.K) X.K X.mg E H1 r1 (.ok (.lst ys) st) Q) : FinL X.K X.mg H1 r1 ys st Q := by
  intro D H r xs hD e S hl hb hb1 hx hz hR
  exact P (.ref D) H ⟨r.l, r1.b⟩ (ext_less e) (S.less e.bsub) (rep_lst.mpr ⟨D, xs, rfl, hl, hb1, hx, hz, Reps.move (mv_less e.bsub) _ _ hR⟩)
theorem fin_ref {H1 : Hp} {r1 : Rg} {ys : List D} {st : Sto} {Q : VK} (P : Post (relD X.K) X.K X.mg E H1 r1 (.ok (.ref st.length) (st ++ [.lst ys])) Q) : FinL X.K X.mg H1 r1 ys st Q := by
  intro D H r xs hD e S hl hb hb1 hx hz hR
  have M : Mv r ⟨r.l ++ [D], r1.b⟩ := mv_take hb e.bsub
  have hg : (r.l ++ [D])[r.l.length]? = some D := by simp
  refine P (.ref D) H ⟨r.l ++ [D], r1.b⟩ ⟨fun n a h => M.pre n a (e.pre n a h), fun _ h => h, fun _ h n => absurd h n, fun a ha hn => ?_, e.keep⟩ ⟨?_, ?_, fun n b x h1 h2 => ?_, fun a ha => S.bt a (e.bsub a ha), fun a ha hc => ?_⟩ (rep_ref.mpr ⟨D, rfl, by rw [← S.len]; exact hg⟩)
  · rcases List.mem_append.mp ha with q | q
    · exact e.new a q hn
    · rw [List.mem_singleton.mp q]; exact hD
  · show (r.l ++ [D]).length = _
    rw [List.length_append, List.length_append, S.len]; rfl
  · show (r.l ++ [D]).Nodup
    rw [List.nodup_append]
    refine ⟨S.nd, by simp, fun b hb c hc => ?_⟩
    rw [List.mem_singleton.mp hc]
    exact fun e => hl (e ▸ hb)
  · have h1 : (r.l ++ [D])[n]? = some b := h1
    by_cases hn : n < r.l.length
    · rw [List.getElem?_append_left hn] at h1
      rw [List.getElem?_append_left (by rw [← S.len]; exact hn)] at h2
      exact (S.ob n b x h1 h2).move M
    · have hn' : n = r.l.length := by
        have := (List.getElem?_eq_some_iff.mp h1).1
        rw [List.length_append] at this
        have h3 : [D].length = 1 := rfl
        omega
      subst hn'
      rw [hg] at h1; cases h1
      rw [S.len] at h2
      simp at h2; subst h2
      exact ⟨xs, hx, hz, Reps.move M _ _ hR⟩
  · have ha : a ∈ r.l ++ [D] := ha
    rcases List.mem_append.mp ha with q | q
    · exact S.lb a q (e.bsub a hc)
    · rw [List.mem_singleton.mp q] at hc
      exact hb1 hc
theorem aLc_post {mi : IM} {vs : List Nat} {g : GM} {c : BM} {e : EM} {β : Type} {rel : Hp → Rg → D → V → Prop} {H : Hp} {r : Rg} {env : Ev} {st : Sto} {f : List D → Sto → Res D} {Q : VK}
    (P : Post (relD X.K) X.K X.mg E H r ((aLc mi vs g c e env st).bind f) Q) (hf : ∀ H1 r1 ys st2, Post (relD X.K) X.K X.mg E H1 r1 (f ys st2) Q → FinL X.K X.mg H1 r1 ys st2 Q) : ∀ Q1 : It → Hp → Prop, (∀ t st1 J H1 r1, Ext r H r1 H1 → StOk X.K X.mg H1 r1 st1 → JOk X.K X.mg H1 r1 t J → t.xs.length ≤ sizeLine →
        (∃ ys st2, compM t g c e t.xs (wipeE env vs) st1 = .ok ys st2 ∧ FinL X.K X.mg H1 r1 ys st2 Q) → Q1 J H1) → Post (relI X.K X.mg) X.K X.mg E H r (mi env st) Q1 := by
  intro Q1 k
  unfold aLc at P
  cases q : mi env st with
  | stuck => rw [q] at P; exact P
  | ex x st1 => rw [q] at P; exact P
  | ok t st1 =>
    rw [q, bind_ok] at P
    intro J H1 r1 e1 S1 J1
    split at P
    · rename_i hz
      refine k t st1 J H1 r1 e1 S1 J1 hz ?_
      cases q2 : compM t g c e t.xs (wipeE env vs) st1 with
      | stuck => rw [q2] at P; exact P.elim
      | ex x st2 => exact absurd q2 (compM_noex _ _ _)
      | ok ys st2 =>
        rw [q2, bind_ok] at P
        exact ⟨ys, st2, rfl, hf _ _ _ _ (Post.later e1 P)⟩
    · exact P.elim
section
variable {tg iter elt : Expr} {ifs : List Expr} {scope : Scope} {own : List (Str × Nat)} {pos : Pos} {mi : IM} {is : List Nat} {g : GM} {c : BM} {e : EM}
/-- what a comprehension's parts must be -/
structure LcOk (X : Cx) (E : XK) (tg iter elt : Expr) (ifs : List Expr) (scope : Scope) (own : List (Str × Nat)) (mi : IM) (is : List Nat) (g : GM) (c : BM) (e : EM) : Prop where
  calm : X.calm = true
  nd : X.N.Nodup
  hi : RI X E tg iter mi
  blk : BlkOk X.N X.env.scope scope own
  hg : ∀ (s : Shared) (H : Hp) (C : Addr) (cl : List (Str × Addr)) (fp : List Addr), RG (X.blk s H scope (compEnvC scope cl C X.env) fp) E0 tg is g
  ht : ∀ (s : Shared) (H : Hp) (C : Addr) (cl : List (Str × Addr)) (fp : List Addr), RTs (X.blk s H scope (compEnvC scope cl C X.env) fp) E0 ifs c
  he : ∀ (s : Shared) (H : Hp) (C : Addr) (cl : List (Str × Addr)) (fp : List Addr), RE (X.blk s H scope (compEnvC scope cl C X.env) fp) E0 elt e
  hv : is.all (fun i => (own.map (·.2)).contains i) = true
theorem LcOk.run (L : LcOk X E tg iter elt ifs scope own mi is g c e) {f : List D → Sto → Res D} (hf : ∀ Q H1 r1 ys st2, Post (relD X.K) X.K X.mg E H1 r1 (f ys st2) Q → FinL X.K X.mg H1 r1 ys st2 Q) {σ : L2.St} {H : Hp} {r : Rg} {env : Ev} {st : Sto} {Q : VK}
    (A : Abs X.K X.mg H r σ env st) (P : Post (relD X.K) X.K X.mg E H r ((aLc mi (own.map (·.2)) g c e env st).bind f) Q) : tLc (rdI X E mi) (rdG X E0 is g) (rdT X E0 c) (rdE X E0 e) (own.map (·.2)) σ H Q :=
  lc_run (E := E) (is := is) (fun i hi => by simpa using List.all_eq_true.mp L.hv i hi) A (aLc_post (β := Unit) (rel := relD X.K) P (hf Q))
theorem re_anyLc (L : LcOk X E tg iter elt ifs scope own mi is g c e) {f : List D → Sto → Res D} (hf : ∀ Q H1 r1 ys st2, Post (relD X.K) X.K X.mg E H1 r1 (f ys st2) Q → FinL X.K X.mg H1 r1 ys st2 Q)
    (hs : ∀ x, foldedSetIterable iter X.env x = pure x) : RE X E (.ListComp elt [⟨tg, iter, ifs, 0⟩] scope pos) (fun env st => (aLc mi (own.map (·.2)) g c e env st).bind f) :=
  re_pe (pe_lc (g := rdG X E0 is g) (tt := rdT X E0 c) (te := rdE X E0 e) L.calm L.nd L.hi.p L.blk (fun s H C cl fp => (L.hg s H C cl fp).p) (fun s H C cl fp => (L.ht s H C cl fp).p) (fun s H C cl fp => (L.he s H C cl fp).p) hs) fun σ H Q r env st A P => L.run hf A P
theorem re_lc (L : LcOk X E tg iter elt ifs scope own mi is g c e) (hs : ∀ x, foldedSetIterable iter X.env x = pure x := by intro _; rfl) : RE X E (.ListComp elt [⟨tg, iter, ifs, 0⟩] scope pos) (cLc mi (own.map (·.2)) g c e) :=
  re_anyLc L (fun Q H1 r1 ys st2 P => fin_val (E := E) P) hs
theorem re_newlc (L : LcOk X E tg iter elt ifs scope own mi is g c e) (hs : ∀ x, foldedSetIterable iter X.env x = pure x := by intro _; rfl) : RE X E (.ListComp elt [⟨tg, iter, ifs, 0⟩] scope pos) (cNewLc mi (own.map (·.2)) g c e) :=
  re_anyLc L (fun Q H1 r1 ys st2 P => fin_ref (E := E) P) hs
theorem rs_anyLc (L : LcOk X E tg iter elt ifs scope own mi is g c e) {f : List D → Sto → Res D} (hf : ∀ Q H1 r1 ys st2, Post (relD X.K) X.K X.mg E H1 r1 (f ys st2) Q → FinL X.K X.mg H1 r1 ys st2 Q) {i : Nat} {y : Str} {py spos : Pos}
    (hy : X.N[i]? = some y) (hyl : X.env.scope.names.lookup y = some .local) (hsw : swapsWith (.ListComp elt [⟨tg, iter, ifs, 0⟩] scope pos) (some (.Name y py)) spos.line X.env = pure true)
    (hs : ∀ x, foldedSetIterable iter X.env x = pure x) : RS X E (.Assign [.Name y py] (.ListComp elt [⟨tg, iter, ifs, 0⟩] scope pos) spos) (sAsg (fun env st => (aLc mi (own.map (·.2)) g c e env st).bind f) (gNm i)) := by
  refine rs_weak (ps_setLc (g := rdG X E0 is g) (tt := rdT X E0 c) (te := rdE X E0 e) L.calm L.nd hy hyl hsw L.hi.p L.blk (fun s H C cl fp => (L.hg s H C cl fp).p) (fun s H C cl fp => (L.ht s H C cl fp).p) (fun s H C cl fp => (L.he s H C cl fp).p) hs) fun D σ H r env st A P => ?_
  show tLc _ _ _ _ _ σ H fun x H1 => gName i x σ H1 D.nx
  refine L.run hf A (postS_bind (rel := relD X.K) P fun d st1 v H1 r1 e1 S1 R1 P1 => ?_)
  exact PostS.next P1 ((A.later e1 S1).set R1)
theorem rs_setLc (L : LcOk X E tg iter elt ifs scope own mi is g c e) {i : Nat} {y : Str} {py spos : Pos} (hy : X.N[i]? = some y) (hyl : X.env.scope.names.lookup y = some .local)
    (hsw : swapsWith (.ListComp elt [⟨tg, iter, ifs, 0⟩] scope pos) (some (.Name y py)) spos.line X.env = pure true) (hs : ∀ x, foldedSetIterable iter X.env x = pure x := by intro _; rfl) :
    RS X E (.Assign [.Name y py] (.ListComp elt [⟨tg, iter, ifs, 0⟩] scope pos) spos) (sAsg (cLc mi (own.map (·.2)) g c e) (gNm i)) := rs_anyLc L (fun Q H1 r1 ys st2 P => fin_val (E := E) P) hy hyl hsw hs
theorem rs_setNewLc (L : LcOk X E tg iter elt ifs scope own mi is g c e) {i : Nat} {y : Str} {py spos : Pos} (hy : X.N[i]? = some y) (hyl : X.env.scope.names.lookup y = some .local)
    (hsw : swapsWith (.ListComp elt [⟨tg, iter, ifs, 0⟩] scope pos) (some (.Name y py)) spos.line X.env = pure true) (hs : ∀ x, foldedSetIterable iter X.env x = pure x := by intro _; rfl) :
    RS X E (.Assign [.Name y py] (.ListComp elt [⟨tg, iter, ifs, 0⟩] scope pos) spos) (sAsg (cNewLc mi (own.map (·.2)) g c e) (gNm i)) := rs_anyLc L (fun Q H1 r1 ys st2 P => fin_ref (E := E) P) hy hyl hsw hs
end
end
end LB
/- ===== LFun ===== -/
set_option Elab.async false
set_option linter.all false
set_option maxRecDepth 100000
set_option autoImplicit false
namespace LB
open PySem PySem.Spec PyProof.Rows L2

/-! ## what is left behind a call: new things of the store are dropped -/
mutual
def D.clo (n : Nat) : D → Bool
  | .tup ds => clos n ds
  | .lst ds => clos n ds
  | .ref k => decide (k < n)
  | _ => true
def clos (n : Nat) : List D → Bool
  | [] => true
  | d :: ds => D.clo n d && clos n ds
end
def O.clo (n : Nat) : O → Bool
  | .lst ds => clos n ds
  | .dK _ kvs => clos n (kvs.map (·.2))
  | .dT kvs => clos n (kvs.map (·.2))
  | .ins _ fs => clos n (fs.map (·.2))
section
variable {K : PySem.W.Frag} {mg : Str → Option Value} {H : Hp} {r r' : Rg} {st : Sto}
/-- another r that keeps the first n -/
structure Cut (n : Nat) (r r' : Rg) : Prop where
  pre : ∀ (k : Nat) (a : Addr), k < n → r.l[k]? = some a → r'.l[k]? = some a
  out : ∀ a, a ∉ r.l → a ∉ r.b → a ∉ r'.l ∧ a ∉ r'.b
mutual
theorem Rep.cut {n : Nat} (hs : Cut n r r') : ∀ (d : D) (v : V), d.clo n = true → Rep K H r d v → Rep K H r' d v
  | .non, _, _, q => by rw [Rep] at q ⊢; exact q
  | .bl _, _, _, q => by rw [Rep] at q ⊢; exact q
  | .int _, _, _, q => by rw [Rep] at q ⊢; exact q
  | .str _, _, _, q => by rw [Rep] at q ⊢; exact q
  | .tup ds, _, hb, q => by
    rw [D.clo] at hb
    rw [Rep] at q ⊢
    obtain ⟨c, zs, h1, h2, h3, h4⟩ := q
    exact ⟨c, zs, h1, h2, h3, Reps.cut hs ds zs hb h4⟩
  | .lst ds, _, hbe, q => by
    rw [D.clo] at hbe
    rw [Rep] at q ⊢
    obtain ⟨c, zs, h1, hn, hb, h2, h3, h4⟩ := q
    exact ⟨c, zs, h1, (hs.out c hn hb).1, (hs.out c hn hb).2, h2, h3, Reps.cut hs ds zs hbe h4⟩
  | .scr ns, _, _, q => by
    rw [Rep] at q ⊢
    obtain ⟨c, h1, ⟨hn, hb, h2⟩ | hk, h3⟩ := q
    case inr => exact ⟨c, h1, .inr hk, h3⟩
    exact ⟨c, h1, .inl ⟨(hs.out c hn hb).1, (hs.out c hn hb).2, h2⟩, h3⟩
  | .ref k, _, hb, q => by
    rw [D.clo, decide_eq_true_eq] at hb
    rw [Rep] at q ⊢
    obtain ⟨a, h1, h2⟩ := q
    exact ⟨a, h1, hs.pre k a hb h2⟩
theorem Reps.cut {n : Nat} (hs : Cut n r r') : ∀ (ds : List D) (vs : List V), clos n ds = true → Reps K H r ds vs → Reps K H r' ds vs
  | [], _, _, q => by rw [Reps] at q ⊢; exact q
  | d :: ds, _, hb, q => by
    rw [clos, Bool.and_eq_true] at hb
    rw [Reps] at q ⊢
    obtain ⟨y, ys, h1, h2, h3⟩ := q
    exact ⟨y, ys, h1, Rep.cut hs d y hb.1 h2, Reps.cut hs ds ys hb.2 h3⟩
end
theorem RepKV.cut {κ : Type} {n : Nat} (hs : Cut n r r') : ∀ (ds : List (κ × D)) (vs : List (κ × V)), clos n (ds.map (·.2)) = true → RepKV K H r ds vs → RepKV K H r' ds vs
  | [], _, _, q => q
  | (k, d) :: ds, _, hb, q => by
    rw [List.map_cons, clos, Bool.and_eq_true] at hb
    obtain ⟨v, us, h1, h2, h3⟩ := q
    exact ⟨v, us, h1, Rep.cut hs d v hb.1 h2, RepKV.cut hs ds us hb.2 h3⟩
theorem OOk.cut {n : Nat} {b : Addr} (hs : Cut n r r') {o : O} (hb : o.clo n = true) (q : OOk K mg H r b o) : OOk K mg H r' b o := by
  cases o with
  | lst ds => obtain ⟨xs, h1, h2, h3⟩ := q; exact ⟨xs, h1, h2, Reps.cut hs _ _ hb h3⟩
  | dK l kvs =>
    cases l with
    | false => obtain ⟨us, h1, h2, h3⟩ := q; exact ⟨us, h1, h2, RepKV.cut hs _ _ hb h3⟩
    | true => obtain ⟨us, o, h1, h2, h3⟩ := q; exact ⟨us, o, h1, h2, RepKV.cut hs _ _ hb h3⟩
  | dT kvs => obtain ⟨us, h1, h2, h3⟩ := q; exact ⟨us, h1, h2, RepKV.cut hs _ _ hb h3⟩
  | ins c fs => obtain ⟨C, dx, us, h1, h2, h3⟩ := q; exact ⟨C, dx, us, h1, h2, RepKV.cut hs _ _ hb h3⟩
theorem cut_take (n : Nat) : Cut n r ⟨r.l.take n, r.b⟩ :=
  ⟨fun k a hk h => by rw [List.getElem?_take, if_pos hk]; exact h, fun a h1 h2 => ⟨fun h => h1 (List.mem_of_mem_take h), h2⟩⟩
theorem cut_one {n k : Nat} {a : Addr} (hk : r.l[k]? = some a) (hn : n ≤ r.l.length) : Cut n r ⟨r.l.take n ++ [a], r.b⟩ :=
  ⟨fun j b hj h => by
    rw [List.getElem?_append_left (by rw [List.length_take]; omega), List.getElem?_take, if_pos hj]; exact h, fun b h1 h2 => ⟨fun h => by
    rcases List.mem_append.mp h with h | h
    · exact h1 (List.mem_of_mem_take h)
    · rw [List.mem_singleton.mp h] at h1; exact h1 (List.mem_of_getElem? hk), h2⟩⟩
end
/-- the first n things, as they were or telling of these n alone -/
def Clean (st st' : Sto) : Prop := ∀ i : Nat, i < st.length → st'[i]? = st[i]? ∨ ∃ o, st'[i]? = some o ∧ o.clo st.length = true
section
variable {K : PySem.W.Frag} {mg : Str → Option Value} {H H' : Hp} {r r' : Rg} {st st' : Sto}
mutual
theorem clo_of {n : Nat} (lt : ∀ {k : Nat} {b : Addr}, r.l[k]? = some b → k < n) : ∀ (d : D) (v : V), Rep K H r d v → d.clo n = true
  | .non, _, _ => rfl
  | .bl _, _, _ => rfl
  | .int _, _, _ => rfl
  | .str _, _, _ => rfl
  | .scr _, _, _ => rfl
  | .tup ds, _, q => by
    rw [D.clo]; rw [Rep] at q
    obtain ⟨c, zs, _, _, _, h4⟩ := q
    exact clos_of lt ds zs h4
  | .lst ds, _, q => by
    rw [D.clo]; rw [Rep] at q
    obtain ⟨c, zs, _, _, _, _, _, h4⟩ := q
    exact clos_of lt ds zs h4
  | .ref k, _, q => by
    rw [D.clo, decide_eq_true_eq]; rw [Rep] at q
    obtain ⟨a, _, h2⟩ := q
    exact lt h2
theorem clos_of {n : Nat} (lt : ∀ {k : Nat} {b : Addr}, r.l[k]? = some b → k < n) : ∀ (ds : List D) (vs : List V), Reps K H r ds vs → clos n ds = true
  | [], _, _ => rfl
  | d :: ds, _, q => by
    rw [Reps] at q
    obtain ⟨y, ys, _, h2, h3⟩ := q
    rw [clos, clo_of lt d y h2, clos_of lt ds ys h3]; rfl
end
/-- cutting back: what was there at the entry tells only of what was there -/
theorem ook_entry {n : Nat} {a : Addr} {o : O} (S : StOk K mg H r st) (h : r.l[n]? = some a) (ho : st[n]? = some o) : o.clo st.length = true := by
  have q := S.ob n a o h ho
  have lt : ∀ {k : Nat} {b : Addr}, r.l[k]? = some b → k < st.length := fun {k b} h => by
    have := (List.getElem?_eq_some_iff.mp h).1
    rw [S.len] at this; exact this
  have ds : ∀ {ds : List D} {vs : List V}, Reps K H r ds vs → clos st.length ds = true := by
    have both : (∀ (d : D) (v : V), Rep K H r d v → d.clo st.length = true) ∧ (∀ (ds : List D) (vs : List V), Reps K H r ds vs → clos st.length ds = true) := by
      constructor
      · exact fun d v h => (clo_of lt d v h)
      · exact fun d v h => (clos_of lt d v h)
    exact fun {ds vs} h => both.2 ds vs h
  have kv : ∀ {κ : Type} {kvs : List (κ × D)} {us : List (κ × V)}, RepKV K H r kvs us → clos st.length (kvs.map (·.2)) = true := by
    intro κ kvs
    induction kvs with
    | nil => intro us _; rfl
    | cons p t ih =>
      intro us h
      obtain ⟨v, us', _, h2, h3⟩ := h
      rw [List.map_cons, clos, ih h3, Bool.and_true]
      exact clo_of lt _ _ h2
  cases o with
  | lst ds' => obtain ⟨xs, h1, h2, h3⟩ := q; exact ds h3
  | dK l kvs =>
    cases l with
    | false => obtain ⟨us, h1, h2, h3⟩ := q; exact kv h3
    | true => obtain ⟨us, o, h1, h2, h3⟩ := q; exact kv h3
  | dT kvs => obtain ⟨us, h1, h2, h3⟩ := q; exact kv h3
  | ins c fs => obtain ⟨C, dx, us, h1, h2, h3⟩ := q; exact kv h3
end

inductive Gc where
  | val   -- a new list that is handed back is a plain list from now on
  | obj   -- a new thing that is handed back stays a thing of the store
  | keep  -- nothing is dropped
open Classical in
noncomputable def fin (gc : Gc) (st : Sto) (d : D) (st' : Sto) : Res D :=
  if st'.length ≤ st.length then .ok d st' else
  match gc with
  | .keep => .ok d st'
  | .val => if Clean st st' then (match d with
      | .ref k => if k < st.length then .ok d (st'.take st.length) else (match st'[k]? with
        | some (.lst ds) => if clos st.length ds = true then .ok (.lst ds) (st'.take st.length) else .stuck
        | _ => .stuck)
      | d => if d.clo st.length = true then .ok d (st'.take st.length) else .stuck) else .stuck
  | .obj => if Clean st st' then (match d with
      | .ref k => if k < st.length then .ok d (st'.take st.length) else (match st'[k]? with
        | some o => if o.clo st.length = true then .ok (.ref st.length) (st'.take st.length ++ [o]) else .stuck
        | _ => .stuck)
      | d => if d.clo st.length = true then .ok d (st'.take st.length) else .stuck) else .stuck
section
variable {K : PySem.W.Frag} {mg : Str → Option Value} {E : XK} {H H' : Hp} {r r' : Rg} {st st' : Sto}
theorem get_at (S : StOk K mg H r st) {n : Nat} {o : O} (h : st[n]? = some o) : ∃ a, r.l[n]? = some a := by
  have := (List.getElem?_eq_some_iff.mp h).1
  rw [← S.len] at this
  exact ⟨r.l[n], List.getElem?_eq_getElem this⟩
theorem clean_ook (S : StOk K mg H r st) (e : Ext r H r' H') (S' : StOk K mg H' r' st') (c : Clean st st') {i : Nat} {a : Addr} {o : O} (hi : i < st.length) (ha : r'.l[i]? = some a) (ho : st'[i]? = some o) : OOk K mg H' r' a o ∧ o.clo st.length = true := by
  refine ⟨S'.ob i a o ha ho, ?_⟩
  rcases c i hi with h | ⟨o', h, hb⟩
  · rw [h] at ho
    obtain ⟨b, hb⟩ := get_at S ho
    exact ook_entry S hb ho
  · rw [h] at ho; cases ho; exact hb
theorem drop_ok (S : StOk K mg H r st) (e : Ext r H r' H') (S' : StOk K mg H' r' st') (c : Clean st st') (hlen : st.length ≤ st'.length) :
    Ext r H ⟨r'.l.take st.length, r'.b⟩ H' ∧ StOk K mg H' ⟨r'.l.take st.length, r'.b⟩ (st'.take st.length) := by
  have hl : r.l.length = st.length := S.len
  refine ⟨⟨fun n a h => ?_, e.bsub, e.newb, fun a ha hn => e.new a (List.mem_of_mem_take ha) hn, e.keep⟩, ?_, ?_, fun n a o h1 h2 => ?_, S'.bt, fun a ha => S'.lb a (List.mem_of_mem_take ha)⟩
  · have := (List.getElem?_eq_some_iff.mp h).1
    show (r'.l.take st.length)[n]? = some a
    rw [List.getElem?_take, if_pos (by omega)]
    exact e.pre n a h
  · show (r'.l.take st.length).length = _
    rw [List.length_take, List.length_take, S'.len]
  · exact List.Sublist.nodup (List.take_sublist _ _) S'.nd
  · have h1 : (r'.l.take st.length)[n]? = some a := h1
    rw [List.getElem?_take] at h1 h2
    split at h1
    · rename_i hn
      rw [if_pos hn] at h2
      obtain ⟨q, qb⟩ := clean_ook S e S' c hn h1 h2
      exact q.cut (cut_take st.length) qb
    · cases h1
theorem fin_post {gc : Gc} {d : D} {Q : VK} {v : V} (S : StOk K mg H r st) (e : Ext r H r' H') (S' : StOk K mg H' r' st') (R : Rep K H' r' d v) (P : Post (relD K) K mg E H r (fin gc st d st') Q) : Q v H' := by
  unfold fin at P
  split at P
  · exact P v H' r' e S' R
  rename_i hlen
  have hle : st.length ≤ st'.length := by omega
  have plain : ∀ (d : D), Rep K H' r' d v → Clean st st' → d.clo st.length = true → Post (relD K) K mg E H r (.ok d (st'.take st.length)) Q → Q v H' := fun d R c hb P => by
    obtain ⟨e2, S2⟩ := drop_ok S e S' c hle
    exact P v H' _ e2 S2 (Rep.cut (cut_take st.length) d v hb R)
  cases gc with
  | keep => exact P v H' r' e S' R
  | val =>
    simp only at P
    split at P
    · rename_i c
      cases d with
      | ref k =>
        simp only at P
        split at P
        · rename_i hk
          exact plain _ R c (by rw [D.clo, decide_eq_true_eq]; exact hk) P
        · rename_i hk
          obtain ⟨a, rfl, ha⟩ := rep_ref.mp R
          obtain ⟨o, ho, q⟩ := S'.there ha
          rw [ho] at P
          cases o with
          | lst ds =>
            simp only at P
            split at P
            · rename_i hb
              obtain ⟨e2, S2⟩ := drop_ok S e S' c hle
              obtain ⟨xs, q1, q2, q3⟩ := q
              refine P _ H' _ e2 S2 (rep_lst.mpr ⟨a, xs, rfl, fun hm => ?_, S'.lb a (List.mem_of_getElem? ha), q1, q2, Reps.cut (cut_take st.length) _ _ hb q3⟩)
              obtain ⟨j, hj⟩ := List.mem_iff_getElem?.mp (show a ∈ r'.l.take st.length from hm)
              rw [List.getElem?_take] at hj
              split at hj
              · have := nodup_at S'.nd hj ha
                omega
              · cases hj
            · exact P.elim
          | _ => exact P.elim
      | _ =>
        simp only at P
        split at P
        · rename_i hb
          exact plain _ R c hb P
        · exact P.elim
    · exact P.elim
  | obj =>
    simp only at P
    split at P
    · rename_i c
      cases d with
      | ref k =>
        simp only at P
        split at P
        · rename_i hk
          exact plain _ R c (by rw [D.clo, decide_eq_true_eq]; exact hk) P
        · rename_i hk
          obtain ⟨a, rfl, ha⟩ := rep_ref.mp R
          obtain ⟨o, ho, q⟩ := S'.there ha
          rw [ho] at P
          simp only at P
          split at P
          · rename_i hb
            have hl : st.length ≤ r'.l.length := by rw [S'.len]; exact hle
            have hr : r.l.length = st.length := S.len
            obtain ⟨e2, S2⟩ := drop_ok S e S' c hle
            have hlen2 : (r'.l.take st.length).length = st.length := by rw [List.length_take]; omega
            have hat : (r'.l.take st.length ++ [a])[st.length]? = some a := by
              rw [List.getElem?_append_right (by omega), hlen2]; simp
            have hnot : a ∉ r'.l.take st.length := fun hm => by
              obtain ⟨j, hj⟩ := List.mem_iff_getElem?.mp hm
              rw [List.getElem?_take] at hj
              split at hj
              · have := nodup_at S'.nd hj ha
                omega
              · cases hj
            have cc := cut_one (r := r') ha hl
            refine P _ H' ⟨r'.l.take st.length ++ [a], r'.b⟩ ⟨fun n b h => cc.pre n b ?_ (e.pre n b h), e.bsub, e.newb, fun b hb hn => ?_, e.keep⟩ ⟨?_, ?_, fun n b o' h1 h2 => ?_, S'.bt, fun b hb => ?_⟩ (rep_ref.mpr ⟨a, rfl, hat⟩)
            · have := (List.getElem?_eq_some_iff.mp h).1
              omega
            · rcases List.mem_append.mp hb with q | q
              · exact e2.new b q hn
              · rw [List.mem_singleton.mp q] at hn ⊢
                exact e.new a (List.mem_of_getElem? ha) hn
            · show (r'.l.take st.length ++ [a]).length = _
              rw [List.length_append, List.length_append, hlen2, List.length_take]
              have : [a].length = [o].length := rfl
              omega
            · show (r'.l.take st.length ++ [a]).Nodup
              rw [List.nodup_append]
              refine ⟨S2.nd, by simp, fun b hb c hc => ?_⟩
              rw [List.mem_singleton.mp hc]
              exact fun e => hnot (e ▸ hb)
            · have h1 : (r'.l.take st.length ++ [a])[n]? = some b := h1
              by_cases hn : n < st.length
              · rw [List.getElem?_append_left (by omega), List.getElem?_take, if_pos hn] at h1
                rw [List.getElem?_append_left (by rw [List.length_take]; omega), List.getElem?_take, if_pos hn] at h2
                obtain ⟨q', qb⟩ := clean_ook S e S' c hn h1 h2
                exact q'.cut cc qb
              · have hn' : n = st.length := by
                  have := (List.getElem?_eq_some_iff.mp h1).1
                  rw [List.length_append, hlen2] at this
                  have h3 : [a].length = 1 := rfl
                  omega
                subst hn'
                rw [hat] at h1; cases h1
                rw [List.getElem?_append_right (by rw [List.length_take]; omega), List.length_take, Nat.min_eq_left hle] at h2
                simp at h2; subst h2
                exact q.cut cc hb
            · have hb : b ∈ r'.l.take st.length ++ [a] := hb
              rcases List.mem_append.mp hb with q | q
              · exact S'.lb b (List.mem_of_mem_take q)
              · rw [List.mem_singleton.mp q]; exact S'.lb a (List.mem_of_getElem? ha)
          · exact P.elim
      | _ =>
        simp only at P
        split at P
        · rename_i hb
          exact plain _ R c hb P
        · exact P.elim
    · exact P.elim

/-! ## defs -/
abbrev FN := List D → Sto → Res D
/-- the frame at the entry: ps parameters, N names in all -/
def envOf (N : Nat) (ds : List D) : Ev := ds.map some ++ List.replicate (N - ds.length) none
noncomputable def fnM (gc : Gc) (N : Nat) (m : SM) : FN := fun ds st => (m (envOf N ds) st).bind fun o st' => match o with
  | .nx _ => fin gc st .non st'
  | .rt d => fin gc st d st'
  | _ => .stuck
def spOf (K : PySem.W.Frag) (mg : Str → Option Value) (n : Nat) (F : FN) : Sp := fun vs H Q E => ∃ r ds st, StOk K mg H r st ∧ Reps K H r ds vs ∧ ds.length = n ∧ Post (relD K) K mg E H r (F ds st) Q
theorem spOf_len {n : Nat} {F : FN} : ∀ vs H Q E, spOf K mg n F vs H Q E → vs.length = n := fun vs H Q E ⟨r, ds, st, S, R, hl, _⟩ => by rw [← Reps.length R]; exact hl
theorem abs_start {N : List Str} {ds : List D} {vs : List V} (S : StOk K mg H r st) (R : Reps K H r ds vs) : Abs K mg H r (L2.start N vs) (envOf N.length ds) st := by
  have hl := Reps.length R
  refine ⟨S, ?_, fun i d h => ?_⟩
  · unfold L2.start envOf
    rw [List.length_append, List.length_append, List.length_map, List.length_map, List.length_replicate, List.length_replicate, hl]
  · unfold envOf at h
    unfold L2.start
    by_cases hi : i < ds.length
    · rw [List.getElem?_append_left (by rw [List.length_map]; exact hi), List.getElem?_map] at h
      rw [List.getElem?_append_left (by rw [List.length_map, ← hl]; exact hi), List.getElem?_map]
      cases q : ds[i]? with
      | none => rw [q] at h; cases h
      | some x =>
        rw [q] at h
        simp only [Option.map_some, Option.some.injEq] at h
        subst h
        obtain ⟨v, h1, h2⟩ := Reps.get R q
        exact ⟨v, by rw [h1]; rfl, h2⟩
    · rw [List.getElem?_append_right (by rw [List.length_map]; omega)] at h
      rw [List.getElem?_replicate] at h
      split at h <;> cases h
theorem body_post {gc : Gc} {N : List Str} {m : SM} {ds : List D} {vs : List V} {Q : VK} {t : TS} (S : StOk K mg H r st) (R : Reps K H r ds vs) (P : Post (relD K) K mg E H r (fnM gc N.length m ds st) Q)
    (ht : ∀ D σ H, (∃ r env st, Abs K mg H r σ env st ∧ PostS K mg E H r (m env st) D) → t D σ H) : t { nx := fun _ H' => Q .non H', rt := Q } (L2.start N vs) H := by
  refine ht _ _ _ ⟨r, envOf N.length ds, st, abs_start S R, ?_⟩
  unfold fnM at P
  cases q : m (envOf N.length ds) st with
  | stuck => rw [q] at P; exact P
  | ex x st' => rw [q] at P; exact P
  | ok o st' =>
    rw [q, bind_ok] at P
    cases o with
    | nx env' => exact fun σ' H' r' e A => fin_post (E := E) S e A.so (rep_non.mpr rfl) P
    | rt d => exact fun v H' r' e S' R' => fin_post (E := E) S e S' R' P
    | bk env' => exact P.elim
    | ct env' => exact P.elim
end
section
variable {P : Program} {w : World} {K : PySem.W.Frag} {mg : Str → Option Value} {base : Heap}
/-- what a body may lean on, wherever it stands -/
structure Ctx (X : Cx) (E : XK) (k : Nat) : Prop where
  hx : Passes (L2.CX X.prog X.w) X E
  hp : PassesOwn (model X.prog X.w) X.A X.env X.xe
  hr : Room k X.A
  hc : X.calm = true
theorem Ctx.blk {X : Cx} {E : XK} {k : Nat} (c : Ctx X E k) {s : Shared} {H : Hp} {scope : Scope} {cenv : Env} {fp : List Addr} : Ctx (X.blk s H scope cenv fp) E0 k :=
  ⟨passL, PassesOwn.never, c.hr, c.hc⟩
theorem Ctx.hu {X : Cx} {E : XK} {k : Nat} (c : Ctx X E k) : X.A.units + 64 < cLine := c.hr.units
/-- a def by its body -/
theorem fn_ok {x qual : Str} {params : Arguments} {body : List Stmt} {scope : Scope} {dvs : List V} {kws : List (Str × V)} {f : Addr} {fd : FuncData} {N ps : List Str} {k : Nat} {gc : Gc} {m : SM} (F : FunD K x qual params body scope dvs kws f fd) (S : FnScope N ps scope)
    (hb : ∀ (cdv : Value) (A : Around) (outer : List Env) (sh : Shared) (H : Hp) (E : XK), Ctx (cxOf (L2.CX P w) P w K mg base N qual scope f cdv A outer sh H E) E k → RB (cxOf (L2.CX P w) P w K mg base N qual scope f cdv A outer sh H E) E body m) :
    FnOk P w K mg base (L2.CX P w) (k + 1) f fd ps (spOf K mg ps.length (fnM gc N.length m)) := by
  refine F.ok S spOf_len fun cdv A outer sh H vs Q E hr ⟨r, ds, st, S1, R, hl, P1⟩ => ⟨_, (hb cdv A outer sh H E ⟨passes_call (takes_of rfl rfl rfl rfl) (fun _ _ _ _ h => h), PassesOwn.leaving, hr, rfl⟩).p, ?_⟩
  exact body_post (E := E) (gc := gc) S1 R P1 (fun D σ H q => q)
end
section
variable {X : Cx} {E : XK}
def cCall (n : Nat) (F : FN) (m : AM) : EM := fun env st => (m env st).bind fun ds st1 => if ds.length = n then F ds st1 else .stuck
theorem re_call {k j : Nat} {f : Addr} {fd : FuncData} {ps : List Str} {F : FN} {x : Str} {p pos : Pos} {e : Expr} {es : List Expr} {m : AM} (cx : Ctx X E j) (G : FnOk X.prog X.w X.K X.mg X.base (L2.CX X.prog X.w) k f fd ps (spOf X.K X.mg ps.length F)) (hk : PySem.W.keepIn X.K (.ref f) = true) (hb : Binds X.K fd ps []) (hm : X.mg x = some (.ref f)) (hj : k ≤ j) (hg : Gl X x) (ha : RA X E (e :: es) m) (hdb : (x == ("__debug__" : Str)) = false := by decide) (he : starEach (e :: es) X.env = (false, eval e X.env) :: starEach es X.env := by rfl) (hpl : (backTo pos (starEach es X.env)).any (·.1) = false := by rfl) :
    RE X E (.Call (.Name x p) (e :: es) [] pos) (cCall ps.length F m) := by
  refine re_pe (pe_call G (cx.hr.mono hj) hg hm hk hb .nil cx.hx ha.p hdb he hpl) fun σ H Q r env st A P => ?_
  refine ⟨r, env, st, A, post_bind P fun ds st1 vs H1 r1 e1 S1 R1 P1 => ?_⟩
  split at P1
  · rename_i hl
    rw [List.append_nil]
    exact ⟨r1, ds, st1, S1, R1, hl, P1⟩
  · exact P1.elim
end
end LB
/- ===== LOps ===== -/
set_option Elab.async false
set_option linter.all false
set_option maxRecDepth 100000
set_option autoImplicit false
namespace LB
open PySem PySem.Spec PyProof.Rows L2
section
variable {X : Cx} {E : XK}
/-! ## ints -/
theorem v2_int {rel : R2} {f : VF2} {C : Int → Int → Prop} {g : Int → Int → V} (hrel : ∀ i j H (Q : VK), C i j → Q (g i j) H → rel (.int i) (.int j) H Q)
    (hf : ∀ d e st, (∃ i j, d = .int i ∧ e = .int j ∧ C i j ∧ ∃ z, f d e st = .ok z st ∧ ∀ (H : Hp) (r : Rg), Rep X.K H r z (g i j)) ∨ f d e st = .stuck) : V2 X E rel f := by
  intro H r st x y d e Q S R1 R2 P
  rcases hf d e st with ⟨i, j, rfl, rfl, hc, z, hz, hr⟩ | h
  · rw [hz] at P
    rw [rep_int.mp R1, rep_int.mp R2]
    exact hrel i j H Q hc (P.here S (hr H r))
  · rw [h] at P; exact P.elim
def vSub : VF2 := fun d e st => match d, e with
  | .int i, .int j => .ok (.int (i - j)) st
  | _, _ => .stuck
theorem v2_sub : V2 X E (rI0 fun i j => .int (i - j)) vSub := v2_int (C := fun _ _ => True) (g := fun i j => .int (i - j)) (fun i j H Q _ q => ⟨i, j, rfl, rfl, q⟩) fun d e st => by
  unfold vSub
  split
  · exact .inl ⟨_, _, rfl, rfl, trivial, _, rfl, fun _ _ => rep_int.mpr rfl⟩
  · exact .inr rfl
instance (i j : Int) : Decidable (CMul i j) := by unfold CMul; exact inferInstance
instance (i j : Int) : Decidable (CDiv i j) := by unfold CDiv; exact inferInstance
instance (i j : Int) : Decidable (CPow i j) := by unfold CPow; exact inferInstance
def vMod : VF2 := fun d e st => match d, e with
  | .int i, .int j => if 0 < j then .ok (.int (i % j)) st else .stuck
  | _, _ => .stuck
theorem v2_mod : V2 X E (rI (fun _ j => 0 < j) fun i j => .int (i % j)) vMod := v2_int (C := fun _ j => 0 < j) (g := fun i j => .int (i % j)) (fun i j H Q c q => ⟨i, j, rfl, rfl, c, q⟩) fun d e st => by
  unfold vMod
  split
  · split
    · rename_i h; exact .inl ⟨_, _, rfl, rfl, h, _, rfl, fun _ _ => rep_int.mpr rfl⟩
    · exact .inr rfl
  · exact .inr rfl
def vFdiv : VF2 := fun d e st => match d, e with
  | .int i, .int j => if CDiv i j then .ok (.int (i / j)) st else .stuck
  | _, _ => .stuck
theorem v2_fdiv : V2 X E (rI CDiv fun i j => .int (i / j)) vFdiv := v2_int (C := CDiv) (g := fun i j => .int (i / j)) (fun i j H Q c q => ⟨i, j, rfl, rfl, c, q⟩) fun d e st => by
  unfold vFdiv
  split
  · split
    · rename_i h; exact .inl ⟨_, _, rfl, rfl, h, _, rfl, fun _ _ => rep_int.mpr rfl⟩
    · exact .inr rfl
  · exact .inr rfl
def vPow : VF2 := fun d e st => match d, e with
  | .int i, .int j => if CPow i j then .ok (.int (i ^ j.toNat)) st else .stuck
  | _, _ => .stuck
theorem v2_pow : V2 X E (rI CPow fun i j => .int (i ^ j.toNat)) vPow := v2_int (C := CPow) (g := fun i j => .int (i ^ j.toNat)) (fun i j H Q c q => ⟨i, j, rfl, rfl, c, q⟩) fun d e st => by
  unfold vPow
  split
  · split
    · rename_i h; exact .inl ⟨_, _, rfl, rfl, h, _, rfl, fun _ _ => rep_int.mpr rfl⟩
    · exact .inr rfl
  · exact .inr rfl
def vNeg : VF1 := fun d st => match d with
  | .int i => .ok (.int (-i)) st
  | _ => .stuck
theorem v1_neg : V1 X E (rU fun i => .int (-i)) vNeg := by
  intro H r st x d Q S R P
  unfold vNeg at P
  split at P
  · exact ⟨_, rep_int.mp R, P.here S (rep_int.mpr rfl)⟩
  · exact P.elim
def vICmp (p : Int → Int → Bool) : VF2 := fun d e st => match d, e with
  | .int i, .int j => .ok (.bl (p i j)) st
  | _, _ => .stuck
theorem v2_icmp {p : Int → Int → Bool} : V2 X E (rI0 fun i j => .bl (p i j)) (vICmp p) := v2_int (C := fun _ _ => True) (g := fun i j => .bl (p i j)) (fun i j H Q _ q => ⟨i, j, rfl, rfl, q⟩) fun d e st => by
  unfold vICmp
  split
  · exact .inl ⟨_, _, rfl, rfl, trivial, _, rfl, fun _ _ => rep_bl.mpr rfl⟩
  · exact .inr rfl
abbrev vLt : VF2 := vICmp fun i j => decide (i < j)
abbrev vLe : VF2 := vICmp fun i j => decide (i ≤ j)
abbrev vGt : VF2 := vICmp fun i j => decide (j < i)
abbrev vGe : VF2 := vICmp fun i j => decide (j ≤ i)

/-! ## + -/
/-- a list that may be read and added: its items -/
def lstOf (st : Sto) : D → Option (List D)
  | .lst ds => some ds
  | .ref n => match st[n]? with
    | some (.lst ds) => some ds
    | _ => none
  | _ => none
theorem lst_of {K : PySem.W.Frag} {mg : Str → Option Value} {H : Hp} {r : Rg} {st : Sto} (S : StOk K mg H r st) {d : D} {v : V} {ds : List D} (R : Rep K H r d v) (h : lstOf st d = some ds) :
    ∃ a xs, v = .ref a ∧ H a = some (.lst xs) ∧ xs.length ≤ sizeLine ∧ Reps K H r ds xs := by
  cases d with
  | lst es =>
    simp only [lstOf, Option.some.injEq] at h; subst h
    obtain ⟨a, xs, h1, _, _, h2, h3, h4⟩ := rep_lst.mp R
    exact ⟨a, xs, h1, h2, h3, h4⟩
  | ref n =>
    obtain ⟨a, h1, h2⟩ := rep_ref.mp R
    obtain ⟨o, e, q⟩ := S.there h2
    simp only [lstOf, e] at h
    cases o with
    | lst es =>
      simp only [Option.some.injEq] at h; subst h
      obtain ⟨xs, q1, q2, q3⟩ := q
      exact ⟨a, xs, h1, q1, q2, q3⟩
    | _ => simp at h
  | _ => simp [lstOf] at h
def vAdd : VF2 := fun d e st => match d, e with
  | .int i, .int j => .ok (.int (i + j)) st
  | .str x, .str y => if x.length + y.length ≤ sizeLine then .ok (.str (x ++ y)) st else .stuck
  | .tup xs, .tup ys => if xs.length + ys.length ≤ sizeLine then .ok (.tup (xs ++ ys)) st else .stuck
  | d, e => match lstOf st d, lstOf st e with
    | some xs, some ys => if xs.length + ys.length ≤ sizeLine then .ok (.lst (xs ++ ys)) st else .stuck
    | _, _ => .stuck
def rAddA (K : PySem.W.Frag) : R2 := fun x y H Q => ((rI0 fun i j => V.int (i + j)) x y H Q) ∨ (∃ i j, x = .str i ∧ y = .str j ∧ i.length + j.length ≤ sizeLine ∧ Q (.str (i ++ j)) H) ∨ rCatA K x y H Q ∨ rCat x y H Q
theorem op_addA : OpR X (binaryOp .Add) (rAddA X.K) := OpR.or op_add (OpR.or op_add_str (OpR.or op_catA op_cat))
theorem v2_add : V2 X E (rAddA X.K) vAdd := by
  intro H r st x y d e Q S R1 R2 P
  unfold vAdd at P
  split at P
  · exact .inl ⟨_, _, rep_int.mp R1, rep_int.mp R2, P.here S (rep_int.mpr rfl)⟩
  · split at P
    · rename_i hz
      exact .inr (.inl ⟨_, _, rep_str.mp R1, rep_str.mp R2, hz, P.here S (rep_str.mpr rfl)⟩)
    · exact P.elim
  · rename_i xs ys
    split at P
    · rename_i hz
      obtain ⟨a, us, rfl, a1, a2, a3⟩ := rep_tup.mp R1
      obtain ⟨b, ws, rfl, b1, b2, b3⟩ := rep_tup.mp R2
      have l1 := Reps.length a3
      have l2 := Reps.length b3
      refine .inr (.inr (.inl ⟨a, b, us, ws, rfl, rfl, a1, b1, by omega, fun hx => ?_, fun hx hy => ?_, fun hx hy => ?_⟩))
      · have e1 : xs = [] := by
          cases xs with
          | nil => rfl
          | cons _ _ => rw [hx] at l1; simp at l1
        rw [e1] at P
        exact P.here S R2
      · have e1 : ys = [] := by
          cases ys with
          | nil => rfl
          | cons _ _ => rw [hy] at l2; simp at l2
        rw [e1, List.append_nil] at P
        exact P.here S R1
      · exact new_tup S (Reps.append a3 b3) (by rw [List.length_append]; omega) P
    · exact P.elim
  · cases q1 : lstOf st d with
    | none => rw [q1] at P; exact P.elim
    | some xs =>
      cases q2 : lstOf st e with
      | none => rw [q1, q2] at P; exact P.elim
      | some ys =>
        rw [q1, q2] at P
        simp only at P
        split at P
        · rename_i hz
          obtain ⟨a, us, rfl, a1, a2, a3⟩ := lst_of S R1 q1
          obtain ⟨b, ws, rfl, b1, b2, b3⟩ := lst_of S R2 q2
          have l1 := Reps.length a3
          have l2 := Reps.length b3
          exact .inr (.inr (.inr ⟨a, b, us, ws, rfl, rfl, a1, b1, by omega, new_lst S (Reps.append a3 b3) (by rw [List.length_append]; omega) P⟩))
        · exact P.elim
/-! ## * -/
def vMul : VF2 := fun d e st => match d, e with
  | .int i, .int j => if CMul i j then .ok (.int (i * j)) st else .stuck
  | .tup xs, .int k => if xs ≠ [] ∧ 2 ≤ k ∧ k ≤ 1000 ∧ xs.length ≤ 1000 then .ok (.tup (List.replicate k.toNat xs).flatten) st else .stuck
  | .lst xs, .int k => if 0 ≤ k ∧ k ≤ 1000 ∧ xs.length ≤ 1000 then .ok (.lst (List.replicate k.toNat xs).flatten) st else .stuck
  | _, _ => .stuck
def rMulA (K : PySem.W.Frag) : R2 := fun x y H Q => ((rI CMul fun i j => V.int (i * j)) x y H Q) ∨ rRepT K x y H Q ∨ rRep x y H Q
theorem op_mulA : OpR X (binaryOp .Mult) (rMulA X.K) := OpR.or op_mul (OpR.or op_repT op_rep)
theorem Reps.rep {K : PySem.W.Frag} {H : Hp} {r : Rg} {ds : List D} {vs : List V} (h : Reps K H r ds vs) : ∀ n : Nat, Reps K H r (List.replicate n ds).flatten (List.replicate n vs).flatten
  | 0 => Reps.nil
  | n + 1 => by
    rw [List.replicate_succ, List.replicate_succ, List.flatten_cons, List.flatten_cons]
    exact Reps.append h (Reps.rep h n)
theorem rep_len {α : Type} (l : List α) : ∀ n : Nat, (List.replicate n l).flatten.length = n * l.length
  | 0 => by simp
  | n + 1 => by rw [List.replicate_succ, List.flatten_cons, List.length_append, rep_len l n]; rw [Nat.succ_mul]; omega
theorem v2_mul : V2 X E (rMulA X.K) vMul := by
  intro H r st x y d e Q S R1 R2 P
  unfold vMul at P
  split at P
  · split at P
    · rename_i hc
      exact .inl ⟨_, _, rep_int.mp R1, rep_int.mp R2, hc, P.here S (rep_int.mpr rfl)⟩
    · exact P.elim
  · rename_i xs k
    split at P
    · rename_i hc
      obtain ⟨h1, h2, h3, h4⟩ := hc
      obtain ⟨a, us, rfl, a1, a2, a3⟩ := rep_tup.mp R1
      have l1 := Reps.length a3
      refine .inr (.inl ⟨a, k, us, rfl, rep_int.mp R2, a1, fun hu => h1 ?_, h2, h3, by omega, new_tup S (Reps.rep a3 _) ?_ P⟩)
      · cases xs with
        | nil => rfl
        | cons _ _ => rw [hu] at l1; simp at l1
      · rw [rep_len]
        have : k.toNat * us.length ≤ 1000 * 1000 := Nat.mul_le_mul (by omega) (by omega)
        exact Nat.le_trans this (by decide)
    · exact P.elim
  · rename_i xs k
    split at P
    · rename_i hc
      obtain ⟨h2, h3, h4⟩ := hc
      obtain ⟨a, us, rfl, _, _, a1, a2, a3⟩ := rep_lst.mp R1
      have l1 := Reps.length a3
      have hz : k.toNat * us.length ≤ sizeLine := by
        have : k.toNat * us.length ≤ 1000 * 1000 := Nat.mul_le_mul (by omega) (by omega)
        exact Nat.le_trans this (by decide)
      refine .inr (.inr ⟨a, k, us, rfl, rep_int.mp R2, a1, by omega, by omega, by rw [Nat.mul_comm]; exact hz, new_lst S (Reps.rep a3 _) (by rw [rep_len]; exact hz) P⟩)
    · exact P.elim
  · exact P.elim

/-! ## == -/
mutual
def toPy0 : D → Option PyData
  | .non => some .none
  | .bl b => some (.bool b)
  | .int i => some (.int i)
  | .str s => some (.str s)
  | .tup ds => (toPys ds).map .tuple
  | .lst ds => (toPys ds).map .list
  | _ => none
def toPys : List D → Option (List PyData)
  | [] => some []
  | d :: ds => match toPy0 d, toPys ds with
    | some p, some ps => some (p :: ps)
    | _, _ => none
end
def toPy (st : Sto) : D → Option PyData
  | .ref n => match st[n]? with
    | some (.lst ds) => (toPys ds).map .list
    | _ => none
  | d => toPy0 d
mutual
theorem dp_of {K : PySem.W.Frag} {H : Hp} {r : Rg} : ∀ (d : D) (v : V) (p : PyData), Rep K H r d v → toPy0 d = some p → Dp K H v p
  | .non, v, p, R, h => by rw [toPy0] at h; cases h; rw [rep_non.mp R]; exact .non
  | .bl b, v, p, R, h => by rw [toPy0] at h; cases h; rw [rep_bl.mp R]; exact .bl b
  | .int i, v, p, R, h => by rw [toPy0] at h; cases h; rw [rep_int.mp R]; exact .int i
  | .str s, v, p, R, h => by rw [toPy0] at h; cases h; rw [rep_str.mp R]; exact .str s
  | .tup ds, v, p, R, h => by
    rw [toPy0] at h
    obtain ⟨a, xs, rfl, h2, h3, h4⟩ := rep_tup.mp R
    cases q : toPys ds with
    | none => rw [q] at h; cases h
    | some ps => rw [q] at h; cases h; exact .tup h2 (dps_of ds xs ps h4 q)
  | .lst ds, v, p, R, h => by
    rw [toPy0] at h
    obtain ⟨a, xs, rfl, _, _, h2, h3, h4⟩ := rep_lst.mp R
    cases q : toPys ds with
    | none => rw [q] at h; cases h
    | some ps => rw [q] at h; cases h; exact .lst (SqL.of h2) (dps_of ds xs ps h4 q)
  | .ref n, v, p, R, h => by rw [toPy0] at h <;> first | cases h | (intros; intro e; cases e)
  | .scr n, v, p, R, h => by rw [toPy0] at h <;> first | cases h | (intros; intro e; cases e)
theorem dps_of {K : PySem.W.Frag} {H : Hp} {r : Rg} : ∀ (ds : List D) (vs : List V) (ps : List PyData), Reps K H r ds vs → toPys ds = some ps → DpAll K H vs ps
  | [], vs, ps, R, h => by
    rw [toPys] at h; cases h
    rw [Reps] at R; subst R; exact .nil
  | d :: ds, vs, ps, R, h => by
    rw [toPys] at h
    rw [Reps] at R
    obtain ⟨y, ys, rfl, h2, h3⟩ := R
    cases q1 : toPy0 d with
    | none => rw [q1] at h; cases h
    | some p =>
      cases q2 : toPys ds with
      | none => rw [q1, q2] at h; cases h
      | some qs => rw [q1, q2] at h; cases h; exact .cons (dp_of d y p h2 q1) (dps_of ds ys qs h3 q2)
end
theorem dp_st {K : PySem.W.Frag} {mg : Str → Option Value} {H : Hp} {r : Rg} {st : Sto} (S : StOk K mg H r st) {d : D} {v : V} {p : PyData} (R : Rep K H r d v) (h : toPy st d = some p) : Dp K H v p := by
  cases d with
  | ref n =>
    obtain ⟨a, rfl, h2⟩ := rep_ref.mp R
    obtain ⟨o, e, q⟩ := S.there h2
    simp only [toPy, e] at h
    cases o with
    | lst ds =>
      obtain ⟨xs, q1, q2, q3⟩ := q
      simp only at h
      cases qq : toPys ds with
      | none => rw [qq] at h; cases h
      | some ps => rw [qq] at h; cases h; exact .lst (SqL.of q1) (dps_of ds xs ps q3 qq)
    | _ => simp at h
  | _ => exact dp_of _ _ _ R h
def scalV : D → Option V
  | .non => some .non
  | .bl b => some (.bl b)
  | .int i => some (.int i)
  | .str s => some (.str s)
  | _ => none
theorem scal_of {K : PySem.W.Frag} {H : Hp} {r : Rg} {d : D} {v x : V} (R : Rep K H r d v) (h : scalV d = some x) : v = x := by
  cases d with
  | non => cases h; exact rep_non.mp R
  | bl b => cases h; exact rep_bl.mp R
  | int i => cases h; exact rep_int.mp R
  | str s => cases h; exact rep_str.mp R
  | _ => cases h
/-- equality of data, where it is known -/
def eqDeep (st : Sto) (d e : D) : Option Bool := match toPy st d, toPy st e with
  | some p, some q => if SeqAt.shaped p = true ∧ SeqAt.shaped q = true then some (PyData.eqv p q) else none
  | _, _ => none
def eqD (st : Sto) (d e : D) : Option Bool := match scalV d, scalV e with
  | some x, some y => if scal x y = true then some (decide (x = y)) else eqDeep st d e
  | _, _ => eqDeep st d e
def vEq : VF2 := fun d e st => match eqD st d e with
  | some b => .ok (.bl b) st
  | none => .stuck
def vNe : VF2 := fun d e st => match eqD st d e with
  | some b => .ok (.bl !b) st
  | none => .stuck
theorem eq_cases {K : PySem.W.Frag} {mg : Str → Option Value} {H : Hp} {r : Rg} {st : Sto} (S : StOk K mg H r st) {d e : D} {x y : V} {b : Bool} (R1 : Rep K H r d x) (R2 : Rep K H r e y) (h : eqD st d e = some b) :
    (scal x y = true ∧ b = decide (x = y)) ∨ ∃ p q, Dp K H x p ∧ Dp K H y q ∧ SeqAt.shaped p = true ∧ SeqAt.shaped q = true ∧ b = PyData.eqv p q := by
  have deep : eqDeep st d e = some b → ∃ p q, Dp K H x p ∧ Dp K H y q ∧ SeqAt.shaped p = true ∧ SeqAt.shaped q = true ∧ b = PyData.eqv p q := fun h => by
    unfold eqDeep at h
    split at h
    · rename_i p q hp hq
      split at h
      · rename_i hs
        cases h
        exact ⟨p, q, dp_st S R1 hp, dp_st S R2 hq, hs.1, hs.2, rfl⟩
      · cases h
    · cases h
  unfold eqD at h
  split at h
  · rename_i u w hu hw
    split at h
    · rename_i hs
      cases h
      rw [scal_of R1 hu, scal_of R2 hw]
      exact .inl ⟨hs, rfl⟩
    · exact .inr (deep h)
  · exact .inr (deep h)
theorem op_eqA {k : Nat} (cx : Ctx X E k) : OpR X (compareOp .Eq) (fun x y H Q => rEq x y H Q ∨ rEqD X.K x y H Q) := OpR.or op_eq (op_eqD cx.hu)
theorem op_neA {k : Nat} (cx : Ctx X E k) : OpR X (compareOp .NotEq) (fun x y H Q => rNe x y H Q ∨ rNeD X.K x y H Q) := OpR.or op_ne (op_neD cx.hu)
theorem v2_eq : V2 X E (fun x y H Q => rEq x y H Q ∨ rEqD X.K x y H Q) vEq := by
  intro H r st x y d e Q S R1 R2 P
  unfold vEq at P
  split at P
  · rename_i b hb
    have q := P.here (v := V.bl b) S (rep_bl.mpr rfl)
    rcases eq_cases S R1 R2 hb with ⟨h1, rfl⟩ | ⟨p, q', h1, h2, h3, h4, rfl⟩
    · exact .inl ⟨h1, q⟩
    · exact .inr ⟨p, q', h1, h2, h3, h4, q⟩
  · exact P.elim
theorem v2_ne : V2 X E (fun x y H Q => rNe x y H Q ∨ rNeD X.K x y H Q) vNe := by
  intro H r st x y d e Q S R1 R2 P
  unfold vNe at P
  split at P
  · rename_i b hb
    have q := P.here (v := V.bl !b) S (rep_bl.mpr rfl)
    rcases eq_cases S R1 R2 hb with ⟨h1, rfl⟩ | ⟨p, q', h1, h2, h3, h4, rfl⟩
    · exact .inl ⟨h1, q⟩
    · exact .inr ⟨p, q', h1, h2, h3, h4, q⟩
  · exact P.elim
end
end LB
/- ===== LOps2 ===== -/
set_option Elab.async false
set_option linter.all false
set_option maxRecDepth 100000
set_option autoImplicit false
namespace LB
open PySem PySem.Spec PyProof.Rows L2
section
variable {X : Cx} {E : XK}
/-! ## subscripts -/
theorem scr_sq {K : PySem.W.Frag} {H : Hp} {r : Rg} {a : Addr} {xs : List V} (h : (a ∉ r.l ∧ a ∉ r.b ∧ Rd H a (.lst xs)) ∨ KL K a xs) : SqL K H a xs := h.elim (fun h => Or.inl h.2.2) Or.inr
theorem Reps.atI {K : PySem.W.Frag} {H : Hp} {r : Rg} {ds : List D} {vs : List V} {i : Int} {d : D} (h : Reps K H r ds vs) (e : L2.atI ds i = some d) : ∃ v, L2.atI vs i = some v ∧ Rep K H r d v := by
  unfold L2.atI at e ⊢
  rw [← Reps.length h]
  cases q : ixN ds.length i with
  | none => rw [q] at e; cases e
  | some j =>
    rw [q] at e
    exact Reps.get h e
def vIx : VF2 := fun d e st => match d, e with
  | .str s, .int i => if s.length ≤ sizeLine then (match L2.atI s.cps.toList i with
    | some c => .ok (.str ⟨#[c]⟩) st
    | none => .stuck) else .stuck
  | .scr ns, .int i => (match L2.atI ns i with
    | some n => .ok (.int n) st
    | none => .stuck)
  | d, .int i => (match seqOf st d with
    | some ds => (match L2.atI ds i with
      | some x => .ok x st
      | none => .stuck)
    | none => .stuck)
  | _, _ => .stuck
theorem atI_map {α β : Type} {f : α → β} {xs : List α} {i : Int} {x : α} (h : L2.atI xs i = some x) : L2.atI (xs.map f) i = some (f x) := by
  unfold L2.atI at h ⊢
  rw [List.length_map]
  cases q : ixN xs.length i with
  | none => rw [q] at h; cases h
  | some j =>
    rw [q] at h
    show (xs.map f)[j]? = _
    rw [List.getElem?_map, show xs[j]? = some x from h]; rfl
theorem v2_ix : V2 X E (rIx X.K) vIx := by
  intro H r st x y d e Q S R1 R2 P
  unfold vIx at P
  split at P
  · split at P
    · rename_i hz
      split at P
      · rename_i c hc
        exact .inr (.inr ⟨_, _, c, rep_str.mp R1, rep_int.mp R2, hz, hc, P.here S (rep_str.mpr rfl)⟩)
      · exact P.elim
    · exact P.elim
  · split at P
    · rename_i n hn
      obtain ⟨a, rfl, h2, h3⟩ := rep_scr.mp R1
      exact .inl ⟨a, _, _, .int n, rfl, rep_int.mp R2, scr_sq h2, atI_map hn, P.here S (rep_int.mpr rfl)⟩
    · exact P.elim
  · split at P
    · rename_i ds hs
      split at P
      · rename_i w hw
        obtain ⟨a, xs, rfl, q, q2, q3⟩ := seq_of S R1 hs
        obtain ⟨v, hv, Rv⟩ := Reps.atI q3 hw
        rcases q with q | q
        · exact .inl ⟨a, xs, _, v, rfl, rep_int.mp R2, q, hv, P.here S Rv⟩
        · exact .inr (.inl ⟨a, xs, _, v, rfl, rep_int.mp R2, q, hv, P.here S Rv⟩)
      · exact P.elim
    · exact P.elim
  · exact P.elim
/-! ## slices -/
def cutD (xs : List D) (lo hi : Option Int) : List D := (xs.drop (HT.sIx xs.length 0 lo)).take (HT.sIx xs.length xs.length hi - HT.sIx xs.length 0 lo)
theorem Reps.cutV {K : PySem.W.Frag} {H : Hp} {r : Rg} {ds : List D} {vs : List V} (h : Reps K H r ds vs) (lo hi : Option Int) : Reps K H r (cutD ds lo hi) (L2.cutV vs lo hi) := by
  unfold cutD L2.cutV
  rw [← Reps.length h]
  exact Reps.take _ (Reps.drop _ h)
abbrev OM := Ev → Sto → Res (Option Int)
def oNone : OM := fun _ st => .ok none st
def oSome (m : EM) : OM := fun env st => (m env st).bind fun d st1 => match d with
  | .int i => .ok (some i) st1
  | _ => .stuck
abbrev relO : Hp → Rg → Option Int → Option Int → Prop := fun _ _ a b => b = a
structure RO (X : Cx) (E : XK) (e : Option Expr) (m : OM) : Prop where
  p : PO X e (fun σ H Q => ∃ r env st, Abs X.K X.mg H r σ env st ∧ Post relO X.K X.mg E H r (m env st) Q)
theorem ro_none : RO X E none oNone := ⟨⟨fun pins s σ H Q I ⟨r, env, st, A, P⟩ => po_none.run pins s σ H Q I (P.here (v := none) A.so rfl)⟩⟩
theorem ro_some {e : Expr} {m : EM} (h : RE X E e m) : RO X E (some e) (oSome m) := ⟨⟨fun pins s σ H Q I ⟨r, env, st, A, P⟩ => (po_some h.p).run pins s σ H Q I ⟨r, env, st, A, post_bind P fun d st1 v H1 r1 e1 S1 R1 P1 => by
  split at P1
  · exact ⟨_, rep_int.mp R1, P1.here S1 rfl⟩
  · exact P1.elim⟩⟩⟩
def vSl (d : D) (lo hi : Option Int) (st : Sto) : Res D := match d with
  | .str s => if s.length ≤ sizeLine then .ok (.str (cutS s lo hi)) st else .stuck
  | .tup ds => .ok (.tup (cutD ds lo hi)) st
  | d => match lstOf st d with
    | some ds => .ok (.lst (cutD ds lo hi)) st
    | none => .stuck
def cSl (m : EM) (lo hi : OM) : EM := fun env st => (m env st).bind fun d st1 => (lo env st1).bind fun l st2 => (hi env st2).bind fun h st3 => vSl d l h st3
theorem cut_whole (xs : List D) (lo hi : Option Int) (h : HT.sIx xs.length 0 lo = 0 ∧ HT.sIx xs.length xs.length hi = xs.length) : cutD xs lo hi = xs := by
  unfold cutD
  rw [h.1, h.2]; simp
theorem re_sl {e : Expr} {lo hi : Option Expr} {m : EM} {ml mh : OM} {p2 pos : Pos} (he : RE X E e m) (hl : RO X E lo ml) (hh : RO X E hi mh) : RE X E (.Subscript e (.Slice lo hi none p2) pos) (cSl m ml mh) := by
  refine re_pe (pe_slice (SlR.or sl_str (SlR.or sl_tupA sl_list)) he.p hl.p hh.p) fun σ H Q r env st A P => ?_
  refine ⟨r, env, st, A, post_bind P fun d st1 v H1 r1 e1 S1 R1 P1 => ?_⟩
  refine ⟨r1, env, st1, A.later e1 S1, post_bind P1 fun l st2 l' H2 r2 e2 S2 R2 P2 => ?_⟩
  refine ⟨r2, env, st2, (A.later e1 S1).later e2 S2, post_bind P2 fun h st3 h' H3 r3 e3 S3 R3 P3 => ?_⟩
  have R2 : l' = l := R2
  have R3 : h' = h := R3
  subst R2 R3
  have Rv := Rep.ext S1 (e2.trans e3) _ _ R1
  unfold vSl at P3
  split at P3
  · split at P3
    · rename_i hz
      exact .inl ⟨_, rep_str.mp Rv, hz, P3.here S3 (rep_str.mpr rfl)⟩
    · exact P3.elim
  · rename_i ds
    obtain ⟨a, xs, rfl, h2, h3, h4⟩ := rep_tup.mp Rv
    have hlen := Reps.length h4
    refine .inr (.inl ⟨a, xs, rfl, h2, fun hw => ?_, fun hw => new_tup S3 (Reps.cutV h4 _ _) (Nat.le_trans (cutV_length _ _ _) h3) P3⟩)
    rw [← hlen] at hw
    rw [cut_whole ds _ _ hw] at P3
    exact P3.here S3 Rv
  · split at P3
    · rename_i ds hs
      obtain ⟨a, xs, rfl, h2, h3, h4⟩ := lst_of S3 Rv hs
      exact .inr (.inr ⟨a, xs, rfl, SqL.of h2, new_lst S3 (Reps.cutV h4 _ _) (Nat.le_trans (cutV_length _ _ _) h3) P3⟩)
    · exact P3.elim

/-! ## built-ins by name -/
abbrev VFs := List D → Sto → Res D
def VA (X : Cx) (E : XK) (rel : List V → Hp → VK → Prop) (f : VFs) : Prop :=
  ∀ H r st xs ds Q, StOk X.K X.mg H r st → Reps X.K H r ds xs → Post (relD X.K) X.K X.mg E H r (f ds st) Q → rel xs H Q
def cBlt (f : VFs) (m : AM) : EM := fun env st => (m env st).bind fun ds st1 => f ds st1
theorem re_blt {x : Str} {id : String} {rel : List V → Hp → VK → Prop} {f : VFs} {e : Expr} {es : List Expr} {m : AM} {p pos : Pos} (hc : CallR X (.builtin id) rel) (hf : VA X E rel f) (hg : Gl X x) (hm : X.mg x = none) (hv : bootBuiltins x = some (.builtin id)) (ha : RA X E (e :: es) m)
    (hn : x ≠ "__name__" := by decide) (hdb : (x == ("__debug__" : Str)) = false := by decide) (he : starEach (e :: es) X.env = (false, eval e X.env) :: starEach es X.env := by rfl) (hpl : (backTo pos (starEach es X.env)).any (·.1) = false := by rfl) :
    RE X E (.Call (.Name x p) (e :: es) [] pos) (cBlt f m) :=
  re_pe (pe_callB hc hg hm hv ha.p hn hdb he hpl) fun σ H Q r env st A P => ⟨r, env, st, A, post_bind P fun ds st1 vs H1 r1 e1 S1 R1 P1 => hf H1 r1 st1 vs ds Q S1 R1 P1⟩
theorem re_bty {x : Str} {T : String} {rel : List V → Hp → VK → Prop} {f : VFs} {e : Expr} {es : List Expr} {m : AM} {p pos : Pos} (hc : CallR X (.type T) rel) (hf : VA X E rel f) (hg : Gl X x) (hm : X.mg x = none) (hv : bootBuiltins x = some (.type T)) (ha : RA X E (e :: es) m)
    (hn : x ≠ "__name__" := by decide) (hdb : (x == ("__debug__" : Str)) = false := by decide) (he : starEach (e :: es) X.env = (false, eval e X.env) :: starEach es X.env := by rfl) (hpl : (backTo pos (starEach es X.env)).any (·.1) = false := by rfl) :
    RE X E (.Call (.Name x p) (e :: es) [] pos) (cBlt f m) :=
  re_pe (pe_callTy hc hg hm hv ha.p hn hdb he hpl) fun σ H Q r env st A P => ⟨r, env, st, A, post_bind P fun ds st1 vs H1 r1 e1 S1 R1 P1 => hf H1 r1 st1 vs ds Q S1 R1 P1⟩
theorem reps1 {K : PySem.W.Frag} {H : Hp} {r : Rg} {d : D} {xs : List V} (h : Reps K H r [d] xs) : ∃ v, xs = [v] ∧ Rep K H r d v := by
  rw [Reps] at h
  obtain ⟨v, ys, rfl, q1, h⟩ := h
  rw [Reps] at h; subst h
  exact ⟨v, rfl, q1⟩
theorem reps2 {K : PySem.W.Frag} {H : Hp} {r : Rg} {d e : D} {xs : List V} (h : Reps K H r [d, e] xs) : ∃ v w, xs = [v, w] ∧ Rep K H r d v ∧ Rep K H r e w := by
  rw [Reps] at h
  obtain ⟨v, ys, rfl, q1, h⟩ := h
  obtain ⟨w, rfl, q2⟩ := reps1 h
  exact ⟨v, w, rfl, q1, q2⟩
def f1 (f : VF1) : VFs := fun ds st => match ds with
  | [d] => f d st
  | _ => .stuck
def f2 (f : VF2) : VFs := fun ds st => match ds with
  | [d, e] => f d e st
  | _ => .stuck
/-- len -/
def vLen : VF1 := fun d st => match d with
  | .str s => if s.length ≤ sizeLine then .ok (.int s.length) st else .stuck
  | .scr ns => .ok (.int ns.length) st
  | .ref n => match st[n]? with
    | some (.lst ds) => .ok (.int ds.length) st
    | some (.dK false kvs) => .ok (.int kvs.length) st
    | _ => .stuck
  | d => match seqOf st d with
    | some ds => .ok (.int ds.length) st
    | none => .stuck
def rLenA (K : PySem.W.Frag) : List V → Hp → VK → Prop := fun xs H Q => (∃ z, xs = [.str z] ∧ z.length ≤ sizeLine ∧ Q (.int z.length) H) ∨ (∃ p ys, xs = [.ref p] ∧ (SqL K H p ys ∨ SqT K H p ys) ∧ Q (.int ys.length) H) ∨ (∃ d kvs, xs = [.ref d] ∧ H d = some (.dK kvs) ∧ Q (.int kvs.length) H)
theorem RepKV.length {κ : Type} {K : PySem.W.Frag} {H : Hp} {r : Rg} : ∀ {kvs : List (κ × D)} {us : List (κ × V)}, RepKV K H r kvs us → kvs.length = us.length
  | [], us, h => by have h : us = [] := h; rw [h]; rfl
  | (k, d) :: t, us, h => by
    obtain ⟨v, us', rfl, _, h3⟩ := h
    rw [List.length_cons, List.length_cons, RepKV.length h3]
theorem va_len : VA X E (rLenA X.K) (f1 vLen) := by
  intro H r st xs ds Q S R P
  unfold f1 at P
  split at P
  · obtain ⟨v, rfl, R1⟩ := reps1 R
    have sq : ∀ (d : D), Rep X.K H r d v → (∀ ds, seqOf st d = some ds → Post (relD X.K) X.K X.mg E H r (.ok (.int ds.length) st) Q → rLenA X.K [v] H Q) := fun d R1 ds hs P => by
      obtain ⟨a, xs, rfl, q, q2, q3⟩ := seq_of S R1 hs
      rw [Reps.length q3] at P
      exact .inr (.inl ⟨a, xs, rfl, q, P.here S (rep_int.mpr rfl)⟩)
    unfold vLen at P
    split at P
    · split at P
      · rename_i hz
        rw [rep_str.mp R1]
        exact .inl ⟨_, rfl, hz, P.here S (rep_int.mpr rfl)⟩
      · exact P.elim
    · obtain ⟨a, rfl, h2, h3⟩ := rep_scr.mp R1
      refine .inr (.inl ⟨a, _, rfl, .inl (scr_sq h2), ?_⟩)
      rw [List.length_map]
      exact P.here S (rep_int.mpr rfl)
    · rename_i n
      split at P
      · rename_i es hn
        exact sq (.ref n) R1 es (by simp only [seqOf, hn]) P
      · rename_i kvs hn
        obtain ⟨a, rfl, h2⟩ := rep_ref.mp R1
        obtain ⟨us, q1, q2, q3⟩ := S.ob n a _ h2 hn
        rw [RepKV.length q3] at P
        exact .inr (.inr ⟨a, us, rfl, q1, P.here S (rep_int.mpr rfl)⟩)
      · exact P.elim
    · split at P
      · rename_i ds hs
        exact sq _ R1 ds hs P
      · exact P.elim
  · exact P.elim
theorem call_lenA : CallR X (.builtin "len") (rLenA X.K) := CallR.or call_len_str (CallR.or call_len_seq call_lenD)
/-- all, any, of a list of bools -/
def blsOf : List D → Option (List Bool)
  | [] => some []
  | .bl b :: r => (blsOf r).map (b :: ·)
  | _ => none
theorem bls_of {K : PySem.W.Frag} {H : Hp} {r : Rg} : ∀ {ds : List D} {vs : List V} {bs : List Bool}, Reps K H r ds vs → blsOf ds = some bs → vs = bs.map V.bl
  | [], vs, bs, R, h => by cases h; rw [Reps] at R; rw [R]; rfl
  | d :: ds, vs, bs, R, h => by
    rw [Reps] at R
    obtain ⟨y, ys, rfl, h2, h3⟩ := R
    cases d with
    | bl b =>
      rw [blsOf] at h
      cases q : blsOf ds with
      | none => rw [q] at h; cases h
      | some cs =>
        rw [q] at h; cases h
        rw [rep_bl.mp h2, bls_of h3 q]; rfl
    | _ => rw [blsOf] at h <;> first | cases h | (intros; intro e; cases e)
def vAll : VF1 := fun d st => match lstOf st d with
  | some ds => (match blsOf ds with
    | some bs => .ok (.bl (bs.all id)) st
    | none => .stuck)
  | none => .stuck
def vAny : VF1 := fun d st => match lstOf st d with
  | some ds => (match blsOf ds with
    | some bs => .ok (.bl (bs.any id)) st
    | none => .stuck)
  | none => .stuck
theorem va_all : VA X E (rAll X.K) (f1 vAll) := by
  intro H r st xs ds Q S R P
  unfold f1 at P
  split at P
  · obtain ⟨v, rfl, R1⟩ := reps1 R
    unfold vAll at P
    split at P
    · rename_i es hs
      split at P
      · rename_i bs hb
        obtain ⟨a, ys, rfl, h2, h3, h4⟩ := lst_of S R1 hs
        rw [bls_of h4 hb] at h2
        exact ⟨a, bs, rfl, SqL.of h2, P.here S (rep_bl.mpr rfl)⟩
      · exact P.elim
    · exact P.elim
  · exact P.elim
theorem va_any : VA X E (rAny X.K) (f1 vAny) := by
  intro H r st xs ds Q S R P
  unfold f1 at P
  split at P
  · obtain ⟨v, rfl, R1⟩ := reps1 R
    unfold vAny at P
    split at P
    · rename_i es hs
      split at P
      · rename_i bs hb
        obtain ⟨a, ys, rfl, h2, h3, h4⟩ := lst_of S R1 hs
        rw [bls_of h4 hb] at h2
        exact ⟨a, bs, rfl, SqL.of h2, P.here S (rep_bl.mpr rfl)⟩
      · exact P.elim
    · exact P.elim
  · exact P.elim
/-- lists of ints -/
def intsOf : List D → Option (List Int)
  | [] => some []
  | .int b :: r => (intsOf r).map (b :: ·)
  | _ => none
theorem ints_of {K : PySem.W.Frag} {H : Hp} {r : Rg} : ∀ {ds : List D} {vs : List V} {bs : List Int}, Reps K H r ds vs → intsOf ds = some bs → vs = bs.map V.int
  | [], vs, bs, R, h => by cases h; rw [Reps] at R; rw [R]; rfl
  | d :: ds, vs, bs, R, h => by
    rw [Reps] at R
    obtain ⟨y, ys, rfl, h2, h3⟩ := R
    cases d with
    | int b =>
      rw [intsOf] at h
      cases q : intsOf ds with
      | none => rw [q] at h; cases h
      | some cs =>
        rw [q] at h; cases h
        rw [rep_int.mp h2, ints_of h3 q]; rfl
    | _ => rw [intsOf] at h <;> first | cases h | (intros; intro e; cases e)
def vSum : VF1 := fun d st => match lstOf st d with
  | some ds => (match intsOf ds with
    | some bs => .ok (.int bs.sum) st
    | none => .stuck)
  | none => .stuck
theorem va_sum : VA X E (rSum X.K) (f1 vSum) := by
  intro H r st xs ds Q S R P
  unfold f1 at P
  split at P
  · obtain ⟨v, rfl, R1⟩ := reps1 R
    unfold vSum at P
    split at P
    · rename_i es hs
      split at P
      · rename_i bs hb
        obtain ⟨a, ys, rfl, h2, h3, h4⟩ := lst_of S R1 hs
        rw [ints_of h4 hb] at h2
        exact ⟨a, bs, rfl, SqL.of h2, P.here S (rep_int.mpr rfl)⟩
      · exact P.elim
    · exact P.elim
  · exact P.elim
/-- tuple(x) -/
def vTup : VF1 := fun d st => match d with
  | .tup ds => .ok (.tup ds) st
  | d => match lstOf st d with
    | some ds => .ok (.tup ds) st
    | none => .stuck
theorem va_tup : VA X E (fun xs H Q => ∃ p ys, xs = [.ref p] ∧ ((SqL X.K H p ys ∧ ∀ l, H l = none → Q (.ref l) (upd H l (.tup ys))) ∨ (SqT X.K H p ys ∧ Q (.ref p) H))) (f1 vTup) := by
  intro H r st xs ds Q S R P
  unfold f1 at P
  split at P
  · obtain ⟨v, rfl, R1⟩ := reps1 R
    unfold vTup at P
    split at P
    · obtain ⟨a, ys, rfl, h2, h3, h4⟩ := rep_tup.mp R1
      exact ⟨a, ys, rfl, .inr ⟨h2, P.here S R1⟩⟩
    · split at P
      · rename_i es hs
        obtain ⟨a, ys, rfl, h2, h3, h4⟩ := lst_of S R1 hs
        exact ⟨a, ys, rfl, .inl ⟨SqL.of h2, new_tup S h4 h3 P⟩⟩
      · exact P.elim
  · exact P.elim
/-- list(x): a list of the store, a list that is never changed -/
def vNewList : VF1 := fun d st => match seqOf st d with
  | some ds => .ok (.ref st.length) (st ++ [.lst ds])
  | none => .stuck
def vList : VF1 := fun d st => match seqOf st d with
  | some ds => .ok (.lst ds) st
  | none => .stuck
theorem va_newlist : VA X E (fun xs H Q => ∃ p ys, xs = [.ref p] ∧ (SqL X.K H p ys ∨ SqT X.K H p ys) ∧ ∀ l, H l = none → Q (.ref l) (upd H l (.lst ys))) (f1 vNewList) := by
  intro H r st xs ds Q S R P
  unfold f1 at P
  split at P
  · obtain ⟨v, rfl, R1⟩ := reps1 R
    unfold vNewList at P
    split at P
    · rename_i es hs
      obtain ⟨a, ys, rfl, h2, h3, h4⟩ := seq_of S R1 hs
      exact ⟨a, ys, rfl, h2, new_ref S h4 h3 P⟩
    · exact P.elim
  · exact P.elim
theorem va_list : VA X E (fun xs H Q => ∃ p ys, xs = [.ref p] ∧ (SqL X.K H p ys ∨ SqT X.K H p ys) ∧ ∀ l, H l = none → Q (.ref l) (upd H l (.lst ys))) (f1 vList) := by
  intro H r st xs ds Q S R P
  unfold f1 at P
  split at P
  · obtain ⟨v, rfl, R1⟩ := reps1 R
    unfold vList at P
    split at P
    · rename_i es hs
      obtain ⟨a, ys, rfl, h2, h3, h4⟩ := seq_of S R1 hs
      exact ⟨a, ys, rfl, h2, new_lst S h4 h3 P⟩
    · exact P.elim
  · exact P.elim
/-- max(i, j), min(i, j) -/
def vMax2 : VF2 := fun d e st => match d, e with
  | .int i, .int j => .ok (.int (if j > i then j else i)) st
  | _, _ => .stuck
def vMin2 : VF2 := fun d e st => match d, e with
  | .int i, .int j => .ok (.int (if j < i then j else i)) st
  | _, _ => .stuck
theorem va_max2 : VA X E (fun xs H Q => ∃ i j, xs = [.int i, .int j] ∧ Q (.int (if j > i then j else i)) H) (f2 vMax2) := by
  intro H r st xs ds Q S R P
  unfold f2 at P
  split at P
  · obtain ⟨v, w, rfl, R1, R2⟩ := reps2 R
    unfold vMax2 at P
    split at P
    · exact ⟨_, _, by rw [rep_int.mp R1, rep_int.mp R2], P.here S (rep_int.mpr rfl)⟩
    · exact P.elim
  · exact P.elim
theorem va_min2 : VA X E (fun xs H Q => ∃ i j, xs = [.int i, .int j] ∧ Q (.int (if j < i then j else i)) H) (f2 vMin2) := by
  intro H r st xs ds Q S R P
  unfold f2 at P
  split at P
  · obtain ⟨v, w, rfl, R1, R2⟩ := reps2 R
    unfold vMin2 at P
    split at P
    · exact ⟨_, _, by rw [rep_int.mp R1, rep_int.mp R2], P.here S (rep_int.mpr rfl)⟩
    · exact P.elim
  · exact P.elim
/-- str(i), int(s) -/
def vStr : VF1 := fun d st => match d with
  | .int i => if i.natAbs.log2 < 1920 then .ok (.str (toString i)) st else .stuck
  | _ => .stuck
theorem va_str : VA X E (fun xs H Q => ∃ i, xs = [.int i] ∧ i.natAbs.log2 < 1920 ∧ Q (.str (toString i)) H) (f1 vStr) := by
  intro H r st xs ds Q S R P
  unfold f1 at P
  split at P
  · obtain ⟨v, rfl, R1⟩ := reps1 R
    unfold vStr at P
    split at P
    · split at P
      · rename_i hz
        exact ⟨_, by rw [rep_int.mp R1], hz, P.here S (rep_str.mpr rfl)⟩
      · exact P.elim
    · exact P.elim
  · exact P.elim
def vIntS : VF1 := fun d st => match d with
  | .str s => (match PySem.intText? s with
    | some n => if s.length ≤ 640 then .ok (.int n) st else .stuck
    | none => .stuck)
  | .bl b => .ok (.int (if b then 1 else 0)) st
  | _ => .stuck
def rIntA : List V → Hp → VK → Prop := fun xs H Q => (∃ a n, xs = [.str a] ∧ PySem.intText? a = some n ∧ a.length ≤ 640 ∧ Q (.int n) H) ∨ ((∃ i, xs = [.int i] ∧ Q (.int i) H) ∨ ∃ k, xs = [.bl k] ∧ Q (.int (if k then 1 else 0)) H)
theorem va_intS : VA X E rIntA (f1 vIntS) := by
  intro H r st xs ds Q S R P
  unfold f1 at P
  split at P
  · obtain ⟨v, rfl, R1⟩ := reps1 R
    unfold vIntS at P
    split at P
    · split at P
      · rename_i n hn
        split at P
        · rename_i hz
          exact .inl ⟨_, n, by rw [rep_str.mp R1], hn, hz, P.here S (rep_int.mpr rfl)⟩
        · exact P.elim
      · exact P.elim
    · rename_i b
      exact .inr (.inr ⟨b, by rw [rep_bl.mp R1], P.here S (rep_int.mpr rfl)⟩)
    · exact P.elim
  · exact P.elim
end
end LB
/- ===== LOps3 ===== -/
set_option Elab.async false
set_option linter.all false
set_option maxRecDepth 100000
set_option autoImplicit false
namespace LB
open PySem PySem.Spec PyProof.Rows L2
section
variable {X : Cx} {E : XK}
/-! ## isinstance(x, T), T a built-in type -/
def tyName (st : Sto) : D → Option String
  | .non => some "NoneType"
  | .bl _ => some "bool"
  | .int _ => some "int"
  | .str _ => some "str"
  | .tup _ => some "tuple"
  | .lst _ => some "list"
  | .scr _ => none
  | .ref n => match st[n]? with
    | some (.lst _) => some "list"
    | some (.dK _ _) => some "dict"
    | some (.dT _) => some "dict"
    | _ => none
theorem ty_of {K : PySem.W.Frag} {mg : Str → Option Value} {H : Hp} {r : Rg} {st : Sto} (S : StOk K mg H r st) {d : D} {v : V} {t : String} (R : Rep K H r d v) (h : tyName st d = some t) : TyX K H v (.type t) := by
  cases d with
  | non => cases h; rw [rep_non.mp R]; exact .base .non
  | bl b => cases h; rw [rep_bl.mp R]; exact .base (.bl b)
  | int i => cases h; rw [rep_int.mp R]; exact .base (.int i)
  | str s => cases h; rw [rep_str.mp R]; exact .base (.str s)
  | tup ds =>
    cases h
    obtain ⟨a, xs, rfl, h2, h3, h4⟩ := rep_tup.mp R
    rcases h2 with (h2 | ⟨o, h2⟩) | ⟨o, its, n, h2, h5, _⟩
    · exact .base (.tup h2)
    · exact .fTuple h2
    · exact .kTuple h2 h5
  | lst ds =>
    cases h
    obtain ⟨a, xs, rfl, _, _, h2, h3, h4⟩ := rep_lst.mp R
    exact .base (.lst h2)
  | scr ns => cases h
  | ref n =>
    obtain ⟨a, rfl, h2⟩ := rep_ref.mp R
    obtain ⟨o, e, q⟩ := S.there h2
    simp only [tyName, e] at h
    cases o with
    | lst ds => cases h; obtain ⟨xs, q1, _⟩ := q; exact .base (.lst q1)
    | dK l kvs =>
      cases h
      cases l with
      | false => obtain ⟨us, q1, _⟩ := q; exact .base (.dK q1)
      | true => obtain ⟨us, ob, q1, _⟩ := q; exact .fDict q1
    | dT kvs => cases h; obtain ⟨us, q1, _⟩ := q; exact .base (.dT q1)
    | ins c fs => cases h
def vIsi (T : String) : VF1 := fun d st => match tyName st d with
  | some t => (match kitB t T with
    | some b => .ok (.bl b) st
    | none => .stuck)
  | none => .stuck
theorem re_isi {T : String} {e : Expr} {m : EM} {p q pos : Pos} {x : Str} (hg : Gl X "isinstance") (hm : X.mg "isinstance" = none) (hgT : Gl X x) (hmT : X.mg x = none) (hvT : bootBuiltins x = some (.type T)) (hnT : x ≠ "__name__") (hdT : (x == ("__debug__" : Str)) = false) (hv : bootBuiltins "isinstance" = some (.builtin "isinstance")) (he : RE X E e m)
    (hs : starEach [e, .Name x q] X.env = (false, eval e X.env) :: starEach [.Name x q] X.env := by rfl) (hs2 : starEach [.Name x q] X.env = (false, eval (.Name x q) X.env) :: starEach [] X.env := by rfl)
    (hpl : (backTo pos (starEach [.Name x q] X.env)).any (·.1) = false := by rfl) : RE X E (.Call (.Name "isinstance" p) [e, .Name x q] [] pos) (c1 (vIsi T) m) := by
  have hT : PE X (.Name x q) (tC (.ty T)) := pe_bltn hgT hmT hvT rfl hnT hdT
  refine re_pe (pe_callB call_isi hg hm hv (pa_cons he.p (pa_cons hT pa_nil hs2) hs) (by decide) (by decide) hs hpl) fun σ H Q r env st A P => ?_
  refine ⟨r, env, st, A, post_bind P fun d st1 v H1 r1 e1 S1 R1 P1 => ?_⟩
  show ∃ x c t u b, _
  unfold vIsi at P1
  split at P1
  · rename_i t ht
    split at P1
    · rename_i b hb
      exact ⟨v, .ty T, .type t, .type T, b, rfl, .ty T, ty_of S1 R1 ht, kit_ty hb, P1.here S1 (rep_bl.mpr rfl)⟩
    · exact P1.elim
  · exact P1.elim
/-! ## x in ys, x not in ys -/
def flatD : D → Bool
  | .non => true
  | .bl _ => true
  | .int _ => true
  | .str _ => true
  | _ => false
theorem flat_of {K : PySem.W.Frag} {H : Hp} {r : Rg} {d : D} {v : V} (R : Rep K H r d v) (h : flatD d = true) : flatV v = true ∧ ∃ x, scalV d = some x ∧ v = x := by
  cases d with
  | non => rw [rep_non.mp R]; exact ⟨rfl, _, rfl, rfl⟩
  | bl b => rw [rep_bl.mp R]; exact ⟨rfl, _, rfl, rfl⟩
  | int i => rw [rep_int.mp R]; exact ⟨rfl, _, rfl, rfl⟩
  | str s => rw [rep_str.mp R]; exact ⟨rfl, _, rfl, rfl⟩
  | _ => cases h
/-- the value of a flat item -/
def toV (d : D) : V := match scalV d with
  | some x => x
  | none => .non
theorem flats_of {K : PySem.W.Frag} {H : Hp} {r : Rg} : ∀ {ds : List D} {vs : List V}, Reps K H r ds vs → ds.all flatD = true → vs.all flatV = true ∧ vs = ds.map toV
  | [], vs, R, _ => by rw [Reps] at R; rw [R]; exact ⟨rfl, rfl⟩
  | d :: ds, vs, R, h => by
    rw [Reps] at R
    obtain ⟨y, ys, rfl, h2, h3⟩ := R
    rw [List.all_cons, Bool.and_eq_true] at h
    obtain ⟨q1, x, q2, q3⟩ := flat_of h2 h.1
    obtain ⟨q4, q5⟩ := flats_of h3 h.2
    rw [List.all_cons, q1, q4]
    refine ⟨rfl, ?_⟩
    rw [List.map_cons, ← q5]
    congr 1
    unfold toV
    rw [q2, q3]
def inDeep (d : D) (ds : List D) (st : Sto) : Option Bool := match toPy st d, toPys ds with
  | some p, some ps => if SeqAt.shaped p = true ∧ SeqAt.shaped (.list ps) = true then some (ps.any fun z => PyData.eqv z p) else none
  | _, _ => none
def inD (st : Sto) (d e : D) : Option Bool := match d, e with
  | .str x, .str y => some (!(Builtin.Str.occurrences y x 0 y.length 1).isEmpty)
  | d, e => match seqOf st e with
    | some ds => if flatD d = true ∧ ds.all flatD = true then some (inV (toV d) (ds.map toV)) else (match lstOf st e with
      | some _ => inDeep d ds st
      | none => none)
    | none => none
def vIn (neg : Bool) : VF2 := fun d e st => match inD st d e with
  | some b => .ok (.bl (if neg then !b else b)) st
  | none => .stuck
def rInA (K : PySem.W.Frag) : R2 := fun x y H Q => (∃ i j, x = .str i ∧ y = .str j ∧ Q (.bl (!(Builtin.Str.occurrences j i 0 j.length 1).isEmpty)) H) ∨ rIn K false x y H Q ∨ rInD K x y H Q
def rNotInA (K : PySem.W.Frag) : R2 := fun x y H Q => (∃ i j, x = .str i ∧ y = .str j ∧ Q (.bl (!(!(Builtin.Str.occurrences j i 0 j.length 1).isEmpty))) H) ∨ rIn K true x y H Q ∨ rNotInD K x y H Q
theorem room65 {k : Nat} (cx : Ctx X E k) : X.A.units + 65 < cLine := by have := cx.hr.un; omega
theorem op_inA {k : Nat} (cx : Ctx X E k) : OpR X (compareOp .In) (rInA X.K) := OpR.or op_in_str (OpR.or op_in_seq (op_inD (room65 cx)))
theorem op_notInA {k : Nat} (cx : Ctx X E k) : OpR X (compareOp .NotIn) (rNotInA X.K) := OpR.or op_notin_str (OpR.or op_notIn_seq (op_notInD (room65 cx)))
theorem in_cases {H : Hp} {r : Rg} {st : Sto} {x y : V} {d e : D} {b : Bool} (S : StOk X.K X.mg H r st) (R1 : Rep X.K H r d x) (R2 : Rep X.K H r e y) (h : inD st d e = some b) :
    (∃ i j, x = .str i ∧ y = .str j ∧ b = (!(Builtin.Str.occurrences j i 0 j.length 1).isEmpty)) ∨
    (∃ p xs, y = .ref p ∧ (SqL X.K H p xs ∨ SqT X.K H p xs) ∧ flatV x = true ∧ xs.all flatV = true ∧ b = inV x xs) ∨
    (∃ p ps, Dp X.K H x p ∧ Dp X.K H y (.list ps) ∧ SeqAt.shaped p = true ∧ SeqAt.shaped (.list ps) = true ∧ b = ps.any fun z => PyData.eqv z p) := by
  unfold inD at h
  split at h
  · cases h
    exact .inl ⟨_, _, rep_str.mp R1, rep_str.mp R2, rfl⟩
  · split at h
    · rename_i ds hs
      obtain ⟨a, ys, rfl, q, q2, q3⟩ := seq_of S R2 hs
      split at h
      · rename_i hf
        cases h
        obtain ⟨f1, x', f2, rfl⟩ := flat_of R1 hf.1
        obtain ⟨f3, f4⟩ := flats_of q3 hf.2
        refine .inr (.inl ⟨a, ys, rfl, q, f1, f3, ?_⟩)
        rw [f4]
        congr 1
        unfold toV; rw [f2]
      · split at h
        · rename_i es he
          unfold inDeep at h
          split at h
          · rename_i p ps hp hps
            split at h
            · rename_i hsh
              cases h
              obtain ⟨a', ys', e1, q', q2', q3'⟩ := lst_of S R2 he
              have e2 : es = ds := by
                cases e with
                | lst zs => simp only [lstOf, seqOf, Option.some.injEq] at he hs; exact he.symm.trans hs
                | ref n =>
                  simp only [lstOf] at he
                  simp only [seqOf] at hs
                  split at he
                  · rename_i zs hz
                    rw [hz] at hs
                    simp only [Option.some.injEq] at he hs
                    exact he.symm.trans hs
                  · cases he
                | _ => simp [lstOf] at he
              subst e2
              cases e1
              exact .inr (.inr ⟨p, ps, dp_st S R1 hp, .lst (SqL.of q') (dps_of _ _ _ q3' hps), hsh.1, hsh.2, rfl⟩)
            · cases h
          · cases h
        · cases h
    · cases h
theorem v2_in : V2 X E (rInA X.K) (vIn false) := by
  intro H r st x y d e Q S R1 R2 P
  unfold vIn at P
  split at P
  · rename_i b hb
    have q := P.here (v := V.bl b) S (rep_bl.mpr rfl)
    rcases in_cases S R1 R2 hb with ⟨i, j, h1, h2, rfl⟩ | ⟨p, xs, h1, h2, h3, h4, rfl⟩ | ⟨p, ps, h1, h2, h3, h4, rfl⟩
    · exact .inl ⟨i, j, h1, h2, q⟩
    · exact .inr (.inl ⟨p, xs, h1, h2, h3, h4, q⟩)
    · exact .inr (.inr ⟨p, ps, h1, h2, h3, h4, q⟩)
  · exact P.elim
theorem v2_notIn : V2 X E (rNotInA X.K) (vIn true) := by
  intro H r st x y d e Q S R1 R2 P
  unfold vIn at P
  split at P
  · rename_i b hb
    have q := P.here (v := V.bl !b) S (rep_bl.mpr rfl)
    rcases in_cases S R1 R2 hb with ⟨i, j, h1, h2, rfl⟩ | ⟨p, xs, h1, h2, h3, h4, rfl⟩ | ⟨p, ps, h1, h2, h3, h4, rfl⟩
    · exact .inl ⟨i, j, h1, h2, q⟩
    · exact .inr (.inl ⟨p, xs, h1, h2, h3, h4, q⟩)
    · exact .inr (.inr ⟨p, ps, h1, h2, h3, h4, q⟩)
  · exact P.elim
/-! ## or by truth -/
def cOrT (a b : EM) : EM := fun env st => (a env st).bind fun x st1 => match truthD st1 x with
  | some true => .ok x st1
  | some false => b env st1
  | none => .stuck
theorem re_orT {a b : Expr} {rest : List Expr} {m n : EM} {pos : Pos} (ha : RE X E a m) (hb : RE X E (.BoolOp .Or (b :: rest) pos) n) : RE X E (.BoolOp .Or (a :: b :: rest) pos) (cOrT m n) := by
  refine re_pe (pe_orT ha.p hb.p) fun σ H Q r env st A P => ?_
  refine ⟨r, env, st, A, post_bind P fun d st1 v H1 r1 e1 S1 R1 P1 => ?_⟩
  split at P1
  · rename_i h
    exact ⟨true, truth_of S1 R1 h, by rw [if_pos rfl]; exact P1.here S1 R1⟩
  · rename_i h
    exact ⟨false, truth_of S1 R1 h, by rw [if_neg Bool.false_ne_true]; exact ⟨r1, env, st1, A.later e1 S1, P1⟩⟩
  · exact P1.elim
/-! ## f-strings -/
def vFmt : VF1 := fun d st => match d with
  | .str s => if s.length ≤ sizeLine then .ok (.str s) st else .stuck
  | .int i => if i.natAbs.log2 < 1920 then .ok (.str (toString i)) st else .stuck
  | _ => .stuck
theorem re_fmt {e : Expr} {m : EM} {pos : Pos} (h : RE X E e m) : RE X E (.FormattedValue e (-1) none pos) (c1 vFmt m) := by
  refine re_pe (pe_fmt h.p) fun σ H Q r env st A P => ?_
  refine ⟨r, env, st, A, post_bind P fun d st1 v H1 r1 e1 S1 R1 P1 => ?_⟩
  unfold vFmt at P1
  split at P1
  · split at P1
    · rename_i hz
      exact .inl ⟨_, rep_str.mp R1, hz, P1.here S1 (rep_str.mpr rfl)⟩
    · exact P1.elim
  · split at P1
    · rename_i hz
      exact .inr ⟨_, rep_int.mp R1, hz, P1.here S1 (rep_str.mpr rfl)⟩
    · exact P1.elim
  · exact P1.elim
def joinS : Str → List D → Option Str
  | acc, [] => some acc
  | acc, .str y :: r => if (acc ++ y).length ≤ sizeLine then joinS (acc ++ y) r else none
  | _, _ => none
/-- the parts of an f-string -/
inductive RJ (X : Cx) (E : XK) : List Expr → List EM → Prop where
  | nil : RJ X E [] []
  | cons {e : Expr} {t : EM} {es : List Expr} {ts : List EM} (h : RE X E e t) (r : RJ X E es ts) : RJ X E (e :: es) (t :: ts)
theorem RJ.pj {es : List Expr} {ts : List EM} (h : RJ X E es ts) : PJ X es (ts.map (rdE X E)) := by
  induction h with
  | nil => exact .nil
  | cons h r ih => exact .cons h.p ih
def cJoin : List EM → Str → EM
  | [], acc, _, st => .ok (.str acc) st
  | m :: ms, acc, env, st => (m env st).bind fun d st1 => match d with
    | .str y => if (acc ++ y).length ≤ sizeLine then cJoin ms (acc ++ y) env st1 else .stuck
    | _ => .stuck
theorem join_run {σ : L2.St} {Q : VK} : ∀ (ms : List EM) (acc : Str) (H : Hp) (r : Rg) (env : Ev) (st : Sto), Abs X.K X.mg H r σ env st → Post (relD X.K) X.K X.mg E H r (cJoin ms acc env st) Q → tJs (ms.map (rdE X E)) acc σ H (fun out H1 => Q (.str out) H1)
  | [], acc, H, r, env, st, A, P => P.here A.so (rep_str.mpr rfl)
  | m :: ms, acc, H, r, env, st, A, P => by
    refine ⟨r, env, st, A, post_bind (rel := relD X.K) P fun d st1 v H1 r1 e1 S1 R1 P1 => ?_⟩
    split at P1
    · split at P1
      · rename_i y hz
        exact ⟨_, rep_str.mp R1, hz, join_run ms _ H1 r1 env st1 (A.later e1 S1) P1⟩
      · exact P1.elim
    · exact P1.elim
theorem re_joined {v1 v2 : Expr} {rest : List Expr} {ms : List EM} {pos : Pos} (h : RJ X E (v1 :: v2 :: rest) ms) : RE X E (.JoinedStr (v1 :: v2 :: rest) pos) (cJoin ms Str.empty) :=
  re_pe (pe_joined h.pj) fun σ H Q r env st A P => join_run ms _ H r env st A P
theorem re_joined1 {e : Expr} {m : EM} {pos : Pos} (h : RE X E e m) : RE X E (.JoinedStr [e] pos) m := ⟨pe_joined1 h.p⟩
/-! ## methods of lists of the store, of texts -/
abbrev VM := D → List D → Sto → Res D
def VMt (X : Cx) (E : XK) (T : String) (rel : V → List V → Hp → VK → Prop) (f : VM) : Prop :=
  ∀ H r st x xs d ds Q, StOk X.K X.mg H r st → Rep X.K H r d x → Reps X.K H r ds xs → Post (relD X.K) X.K X.mg E H r (f d ds st) Q → rel x xs H Q
/-- the receiver is of type T -/
def isT (T : String) (st : Sto) : D → Bool
  | .str _ => T == "str"
  | .lst _ => T == "list"
  | .ref n => match st[n]? with
    | some (.lst _) => T == "list"
    | some (.dK false _) => T == "dict"
    | some (.dT _) => T == "dict"
    | _ => false
  | _ => false
theorem isT_of {K : PySem.W.Frag} {mg : Str → Option Value} {H : Hp} {r : Rg} {st : Sto} (S : StOk K mg H r st) {T : String} {d : D} {v : V} (R : Rep K H r d v) (h : isT T st d = true) : tyV K T v H := by
  cases d with
  | str s => rw [rep_str.mp R]; exact (beq_iff_eq.mp h)
  | lst ds => obtain ⟨a, xs, rfl, _, _, h2, _⟩ := rep_lst.mp R; exact .inl ⟨beq_iff_eq.mp h, xs, SqL.of h2⟩
  | ref n =>
    obtain ⟨a, rfl, h2⟩ := rep_ref.mp R
    obtain ⟨o, e, q⟩ := S.there h2
    simp only [isT, e] at h
    cases o with
    | lst ds => obtain ⟨xs, q1, _⟩ := q; exact .inl ⟨beq_iff_eq.mp h, xs, SqL.of q1⟩
    | dK l kvs =>
      cases l with
      | false => obtain ⟨us, q1, _⟩ := q; exact .inr (.inr (.inl ⟨beq_iff_eq.mp h, .inl ⟨us, q1⟩⟩))
      | true => cases h
    | dT kvs => obtain ⟨us, q1, _⟩ := q; exact .inr (.inr (.inl ⟨beq_iff_eq.mp h, .inr ⟨us, q1⟩⟩))
    | ins c fs => cases h
  | _ => cases h
def cMt (T : String) (f : VM) (o : EM) (m : AM) : EM := fun env st => (o env st).bind fun d st1 => if isT T st1 d = true then (m env st1).bind fun ds st2 => f d ds st2 else .stuck
def cMt0 (T : String) (f : VM) (o : EM) : EM := fun env st => (o env st).bind fun d st1 => if isT T st1 d = true then f d [] st1 else .stuck
theorem re_mt {T name id : String} {rel : V → List V → Hp → VK → Prop} {f : VM} {o e : Expr} {es : List Expr} {mo : EM} {m : AM} {apos cpos : Pos} (pa : PlainAttrs T) (slot : Slot T name id) (hty : typeOf (.builtin id) = pure (.type "method_descriptor")) (hm : MtR X id rel) (hf : VMt X E T rel f)
    (ho : RE X E o mo) (ha : RA X E (e :: es) m) (hbase : attributeBase o name X.env (eval o X.env) = eval o X.env := by rfl)
    (hfew : ((backTo cpos (starEach (e :: es) X.env)).all (fun x => !x.1) && (backToKw cpos (keywordEach [] X.env)).all (fun x => x.1.isSome)
      && decide ((e :: es).length + ([] : List Keyword).length + (if ([] : List Keyword).isEmpty then 0 else 1) < 30)) = true := by rfl)
    (hline : (apos.endLine == cpos.line) = true := by rfl) (hs : starEach (e :: es) X.env = (false, eval e X.env) :: starEach es X.env := by rfl) (hplain : (backTo cpos (starEach es X.env)).any (·.1) = false := by rfl) :
    RE X E (.Call (.Attribute o name apos) (e :: es) [] cpos) (cMt T f mo m) := by
  refine re_pe (pe_bm pa slot hty hm ho.p ha.p hbase hfew hline hs hplain) fun σ H Q r env st A P => ?_
  refine ⟨r, env, st, A, post_bind P fun d st1 v H1 r1 e1 S1 R1 P1 => ?_⟩
  split at P1
  · rename_i ht
    refine ⟨isT_of S1 R1 ht, r1, env, st1, A.later e1 S1, post_bind P1 fun ds st2 vs H2 r2 e2 S2 R2 P2 => ?_⟩
    exact hf H2 r2 st2 v vs d ds Q S2 (Rep.ext S1 e2 _ _ R1) R2 P2
  · exact P1.elim
theorem re_mt0 {T name id : String} {rel : V → List V → Hp → VK → Prop} {f : VM} {o : Expr} {mo : EM} {apos cpos : Pos} (pa : PlainAttrs T) (slot : Slot T name id) (hty : typeOf (.builtin id) = pure (.type "method_descriptor")) (hm : MtR X id rel) (hf : VMt X E T rel f)
    (ho : RE X E o mo) (hbase : attributeBase o name X.env (eval o X.env) = eval o X.env := by rfl) (hline : (apos.endLine == cpos.line) = true := by rfl) :
    RE X E (.Call (.Attribute o name apos) [] [] cpos) (cMt0 T f mo) := by
  refine re_pe (pe_bm0 pa slot hty hm ho.p hbase hline) fun σ H Q r env st A P => ?_
  refine ⟨r, env, st, A, post_bind P fun d st1 v H1 r1 e1 S1 R1 P1 => ?_⟩
  split at P1
  · rename_i ht
    exact ⟨isT_of S1 R1 ht, hf H1 r1 st1 v [] d [] Q S1 R1 Reps.nil P1⟩
  · exact P1.elim
/-- a list of the store is written -/
theorem wr_lst {H : Hp} {r : Rg} {st : Sto} {n : Nat} {a : Addr} {ds : List D} {vs : List V} (S : StOk X.K X.mg H r st) (h : r.l[n]? = some a) (R : Reps X.K H r ds vs) (hz : vs.length ≤ sizeLine) : Ext r H r (upd H a (.lst vs)) ∧ StOk X.K X.mg (upd H a (.lst vs)) r (st.set n (.lst ds)) :=
  ⟨ext_write h, S.write h ⟨vs, upd_same, hz, Reps.ext S (ext_write h) _ _ R⟩⟩
def mAppend : VM := fun d ds st => match d, ds with
  | .ref n, [y] => (match st[n]? with
    | some (.lst xs) => if xs.length < sizeLine then .ok .non (st.set n (.lst (xs ++ [y]))) else .stuck
    | _ => .stuck)
  | _, _ => .stuck
theorem mt_appendA : VMt X E "list" rAppend mAppend := by
  intro H r st x xs d ds Q S R1 R2 P
  unfold mAppend at P
  split at P
  · rename_i n y
    split at P
    · rename_i zs hn
      split at P
      · rename_i hz
        obtain ⟨a, rfl, h2⟩ := rep_ref.mp R1
        obtain ⟨v, rfl, R3⟩ := reps1 R2
        obtain ⟨us, q1, q2, q3⟩ := S.ob n a _ h2 hn
        have hl := Reps.length q3
        obtain ⟨e1, S1⟩ := wr_lst S h2 (Reps.append q3 (Reps.cons R3 Reps.nil)) (by rw [List.length_append]; show us.length + 1 ≤ sizeLine; omega)
        exact ⟨a, us, v, rfl, rfl, q1, by omega, P .non _ r e1 S1 (rep_non.mpr rfl)⟩
      · exact P.elim
    · exact P.elim
  · exact P.elim
def mPopAt : VM := fun d ds st => match d, ds with
  | .ref n, [.int i] => (match st[n]? with
    | some (.lst xs) => (match ixN xs.length i with
      | some k => (match xs[k]? with
        | some y => .ok y (st.set n (.lst (xs.eraseIdx k)))
        | none => .stuck)
      | none => .stuck)
    | _ => .stuck)
  | _, _ => .stuck
theorem Reps.eraseIdx {K : PySem.W.Frag} {H : Hp} {r : Rg} : ∀ {ds : List D} {vs : List V} (k : Nat), Reps K H r ds vs → Reps K H r (ds.eraseIdx k) (vs.eraseIdx k)
  | [], vs, k, h => by rw [Reps] at h; subst h; exact Reps.nil
  | d :: ds, vs, 0, h => by
    rw [Reps] at h
    obtain ⟨y, ys, rfl, h2, h3⟩ := h
    exact h3
  | d :: ds, vs, k + 1, h => by
    rw [Reps] at h
    obtain ⟨y, ys, rfl, h2, h3⟩ := h
    exact Reps.cons h2 (Reps.eraseIdx k h3)
theorem mt_popAtA : VMt X E "list" rPopAt mPopAt := by
  intro H r st x xs d ds Q S R1 R2 P
  unfold mPopAt at P
  split at P
  · rename_i n i
    split at P
    · rename_i zs hn
      split at P
      · rename_i k hk
        split at P
        · rename_i y hy
          obtain ⟨a, rfl, h2⟩ := rep_ref.mp R1
          obtain ⟨v, rfl, R3⟩ := reps1 R2
          obtain ⟨us, q1, q2, q3⟩ := S.ob n a _ h2 hn
          have hl := Reps.length q3
          obtain ⟨w, hw, Rw⟩ := Reps.get q3 hy
          obtain ⟨k1, k2, k3, k4⟩ := ixN_seq hk
          have hsl : us.length < 2 ^ 63 := Nat.lt_of_le_of_lt q2 (by decide)
          obtain ⟨e1, S1⟩ := wr_lst S h2 (Reps.eraseIdx k q3) (Nat.le_trans (List.length_eraseIdx_le _ _) q2)
          exact ⟨a, us, i, k, w, rfl, by rw [rep_int.mp R3], q1, by omega, by omega, by rw [← hl]; exact k1, hw, P w _ r e1 S1 (Rep.ext S e1 _ _ Rw)⟩
        · exact P.elim
      · exact P.elim
    · exact P.elim
  · exact P.elim
def mPop : VM := fun d ds st => match d, ds with
  | .ref n, [] => (match st[n]? with
    | some (.lst xs) => (match xs[xs.length - 1]? with
        | some y => .ok y (st.set n (.lst xs.dropLast))
        | none => .stuck)
    | _ => .stuck)
  | _, _ => .stuck
theorem Reps.dropLast {K : PySem.W.Frag} {H : Hp} {r : Rg} {ds : List D} {vs : List V} (h : Reps K H r ds vs) : Reps K H r ds.dropLast vs.dropLast := by
  rw [List.dropLast_eq_take, List.dropLast_eq_take, ← Reps.length h]
  exact Reps.take _ h
theorem mt_popA : VMt X E "list" rPop mPop := by
  intro H r st x xs d ds Q S R1 R2 P
  unfold mPop at P
  split at P
  · rename_i n
    split at P
    · rename_i zs hn
      split at P
      · rename_i y hy
        obtain ⟨a, rfl, h2⟩ := rep_ref.mp R1
        obtain ⟨us, q1, q2, q3⟩ := S.ob n a _ h2 hn
        have hl := Reps.length q3
        obtain ⟨w, hw, Rw⟩ := Reps.get q3 hy
        rw [Reps] at R2
        obtain ⟨e1, S1⟩ := wr_lst S h2 (Reps.dropLast q3) (by rw [List.length_dropLast]; omega)
        exact ⟨a, us, w, rfl, R2, q1, by rw [← hl]; exact hw, P w _ r e1 S1 (Rep.ext S e1 _ _ Rw)⟩
      · exact P.elim
    · exact P.elim
  · exact P.elim
/-! ## xs[i] = v -/
abbrev VS := D → D → D → Sto → Res Unit
abbrev relU : Hp → Rg → Unit → Unit → Prop := fun _ _ _ _ => True
def VSet (X : Cx) (E : XK) (rel : TSet) (f : VS) : Prop :=
  ∀ H r st o i v d e y (Q : Hp → Prop), StOk X.K X.mg H r st → Rep X.K H r d o → Rep X.K H r e i → Rep X.K H r y v → Post relU X.K X.mg E H r (f d e y st) (fun _ H' => Q H') → rel o i v H Q
def gSubM (f : VS) (mo mi : EM) : GM := fun y env st => (mo env st).bind fun d st1 => (mi env st1).bind fun e st2 => (f d e y st2).bind fun _ st3 => .ok env st3
theorem postV_bind {α β : Type} {rel : Hp → Rg → α → β → Prop} {K : PySem.W.Frag} {mg : Str → Option Value} {H : Hp} {r : Rg} {res : Res α} {f : α → Sto → Res Ev} {Q : L2.St → Hp → Prop} {Q1 : β → Hp → Prop} (h : PostV K mg E H r (res.bind f) Q)
    (k : ∀ d st1 v H1 r1, Ext r H r1 H1 → StOk K mg H1 r1 st1 → rel H1 r1 d v → PostV K mg E H1 r1 (f d st1) Q → Q1 v H1) : Post rel K mg E H r res Q1 := by
  cases res with
  | ok d st => exact fun v H' r' e S R => k d st v H' r' e S R (PostV.later e h)
  | ex x st => exact h
  | stuck => exact h
theorem rg_sub {o i : Expr} {mo mi : EM} {rel : TSet} {f : VS} {pos : Pos} (hs : PSet X rel) (hf : VSet X E rel f) (ho : RE X E o mo) (hi : RE X E i mi)
    (ha : ∀ v, assign (.Subscript o i pos) X.env v = (do
      let ov ← holding [v] (eval o X.env)
      let iv ← holding [v, ov] (eval i X.env)
      standAt pos
      holding [v, ov, iv] (setItem ov iv v)
      release [v, ov, iv] []) := by intro _; rfl) : RG X E (.Subscript o i pos) [] (gSubM f mo mi) := by
  refine ⟨pg_weak (pg_sub ho.p hi.p hs ha) fun v σ H Q ⟨r, env, st, y, A, R, P⟩ => ?_⟩
  refine ⟨r, env, st, A, postV_bind P fun d st1 w H1 r1 e1 S1 R1 P1 => ?_⟩
  refine ⟨r1, env, st1, A.later e1 S1, postV_bind P1 fun e st2 u H2 r2 e2 S2 R2 P2 => ?_⟩
  refine hf H2 r2 st2 w u v d e y _ S2 (Rep.ext S1 e2 _ _ R1) R2 (Rep.ext A.so (e1.trans e2) _ _ R) (postV_bind P2 fun _ st3 _ H3 r3 e3 S3 _ P3 => ?_)
  exact P3 σ H3 r3 (Ext.refl _ _) (((A.later e1 S1).later e2 S2).later e3 S3) SameBut.refl
def sSetL : VS := fun d e y st => match d, e with
  | .ref n, .int i => (match st[n]? with
    | some (.lst xs) => (match ixN xs.length i with
      | some k => .ok () (st.set n (.lst (xs.set k y)))
      | none => .stuck)
    | _ => .stuck)
  | _, _ => .stuck
theorem vset_lst : VSet X E rSetL sSetL := by
  intro H r st o i v d e y Q S R1 R2 R3 P
  unfold sSetL at P
  split at P
  · rename_i n i
    split at P
    · rename_i xs hn
      split at P
      · rename_i k hk
        obtain ⟨a, rfl, h2⟩ := rep_ref.mp R1
        obtain ⟨us, q1, q2, q3⟩ := S.ob n a _ h2 hn
        have hl := Reps.length q3
        obtain ⟨e1, S1⟩ := wr_lst S h2 (Reps.set (i := k) q3 R3) (by rw [List.length_set]; exact q2)
        exact ⟨a, us, i, k, rfl, rep_int.mp R2, q1, by rw [← hl]; exact hk, P () _ r e1 S1 trivial⟩
      · exact P.elim
    · exact P.elim
  · exact P.elim
end
end LB
/- ===== LIter ===== -/
set_option Elab.async false
set_option linter.all false
set_option maxRecDepth 100000
set_option autoImplicit false
namespace LB
open PySem PySem.Spec PyProof.Rows L2
def ItEL (K : PySem.W.Frag) (k0 : Int) (a : Addr) : It :=
  ⟨fun i H => ∃ (xs : List V) (x : V), SqL K H a xs ∧ xs[i]? = some x, fun i H v H' => ∃ T x, v = .ref T ∧ H T = none ∧ H' = upd H T (.tup [.int (k0 + (i : Nat)), x]) ∧ ∀ xs, SqL K H a xs → xs[i]? = some x, fun i H => ∃ xs : List V, SqL K H a xs ∧ xs.length = i⟩
theorem turn_enumL {P : Program} {w : World} {K : PySem.W.Frag} {elts : List Expr} {kk : Nat} {tpos : Pos} (k0 : Int) (a e it : Addr) :
    Turn P w K (.Tuple elts kk tpos) (ItEL K k0 a) [e, it] e (fun i h => (∃ old, IsEnum h e it (k0 + ((i : Nat) : Int)) old) ∧ h.IsListIter it a i ∧ e ≠ it ∧ a ≠ it) where
  mem := by simp
  obj := fun i h st b hb => by
    obtain ⟨⟨old, he⟩, ⟨o, ho, hc, hd⟩, _⟩ := st
    have e' : b = e ∨ b = it := by simpa using hb
    rcases e' with z | z
    · rw [z]; exact ⟨_, he, fun v q => nomatch q⟩
    · rw [z]; exact ⟨o, ho, fun v q => by rw [hd] at q; cases q⟩
  keep := fun i h h' st k => let ⟨⟨old, he⟩, hi, hne⟩ := st; ⟨⟨old, k e (by simp) _ he⟩, hi.at fun o q => k it (by simp) o q, hne⟩
  item := by
    intro X hP hw hK hc i pins s σ H E I hf st hg
    subst hP hw hK
    obtain ⟨⟨old, he⟩, hit, hne, hai⟩ := st
    obtain ⟨xs, x, hq, hx⟩ := hg
    obtain ⟨its, rv, p, hz⟩ := I.list hq
    obtain ⟨u, hu, ru⟩ := rv.get hx
    have hel : e < s.heap.objs.size := Heap.lt_size he
    have hil : it < s.heap.objs.size := by obtain ⟨_, q, _⟩ := hit; exact Heap.lt_size q
    have hlt : i < its.toArray.size := by
      have := (List.getElem?_eq_some_iff.mp hu).1
      simpa using this
    have hal : s.heap.IsList a its.toArray := p.isList
    have hea : e ∉ [it, a] := fun hm => by
      rcases List.mem_cons.mp hm with z | z
      · exact hne z
      · have z := List.mem_singleton.mp z
        obtain ⟨o, ho, hcc, _⟩ := hal
        rw [← z, he] at ho; cases ho
        injection hcc with hcc
        exact absurd hcc (by decide)
    refine wpAny_pyNext_enum_itemC (Draws.list (A := X.A.in1) (I.ok.hd hc) it a hai its.toArray) he ⟨hit, hal⟩ hlt hne hea fun x2 h' tk hP ho hs' hT hsz hk => ?_
    have ex2 : u = x2 := by
      have hP : its.toArray[i]? = some x2 := hP
      rw [show its.toArray[i]? = some u by simpa using hu] at hP
      exact Option.some.inj hP
    subst ex2
    refine ⟨_, rfl, wpAny_letOwnedTupleGo_enum (s := { s with heap := h', toks := tk + 1 }) ho fun h'' he' sb => ?_⟩
    have hT2 : h''.get? s.heap.objs.size = some { cls := .type "tuple", data := .seq #[.int (k0 + ((i : Nat) : Int)) tk, u] } := (sb.2 _ (Nat.ne_of_gt hel)).trans hT
    have new : ObjOk X.prog X.w (upd H s.heap.objs.size (.tup [.int (k0 + (i : Nat)), x])) h'' s.heap.objs.size (.tup [.int (k0 + (i : Nat)), x]) :=
      ⟨by show 2 ≤ sizeLine; decide, [.int (k0 + ((i : Nat) : Int)) tk, u], .cons ⟨_, rfl⟩ (.cons ru .nil), ⟨_, hT2, rfl, _, rfl⟩⟩
    have I1 : Inv X pins σ (upd H s.heap.objs.size (.tup [.int (k0 + (i : Nat)), x])) { s with heap := h'', toks := tk + 1 } :=
      I.turnedNew (ch := [e, it]) (fun b ob hb q => (sb.2 b (fun z => hb (by simp [z]))).trans (hk b ob (fun z => hb (by simp [z])) (fun z => hb (by simp [z])) q)) hf (Nat.le_refl _) new
    refine ⟨.ref s.heap.objs.size, _, I1, rfl, ⟨_, x, rfl, I.hok.fresh (Nat.le_refl _), rfl, fun ys hy => by rw [I.list_inj hy hq]; exact hx⟩, ⟨⟨u, ?_⟩, hs'.1.at fun o q => (sb.2 it (Ne.symm hne)).trans q, hne, hai⟩, fun b hb => ?_⟩
    · have e1 : k0 + ((i + 1 : Nat) : Int) = k0 + (i : Int) + 1 := by omega
      rw [e1]; exact he'
    · have hb' : b < s.heap.objs.size := by
        have e' : b = e ∨ b = it := by simpa using hb
        rcases e' with z | z
        · rw [z]; exact hel
        · rw [z]; exact hil
      rw [upd_ne (Nat.ne_of_lt hb')]
      exact (hf b hb).1
  done := by
    intro X hP hw hK hc i pins s σ H E I hf st hg
    subst hP hw hK
    obtain ⟨⟨old, he⟩, hit, hne, hai⟩ := st
    obtain ⟨xs, hq, hx⟩ := hg
    obtain ⟨its, rv, p, hz⟩ := I.list hq
    obtain ⟨f0, f1, f2, f3, f4, f5⟩ := hf it (by simp)
    have hl := rv.length
    have hal : s.heap.IsList a its.toArray := p.isList
    have hn : i = its.toArray.size := by rw [List.size_toArray, ← hl, hx]
    subst hn
    exact wpAny_pyNext_enum_endD (Draws.list (A := X.A.in1) (I.ok.hd hc) it a hai its.toArray) he ⟨hit, hal⟩ fun h' eb => ⟨rfl, I.turned (t' := s.toks) (fun b o hb q => eb b o hb q) f0 f1 f3 f4 f5⟩
  self := fun A i s Q E st h => let ⟨⟨_, he⟩, _⟩ := st; wpAny_pyIter_enum he h
def ItET (K : PySem.W.Frag) (k0 : Int) (a : Addr) : It :=
  ⟨fun i H => ∃ (xs : List V) (x : V), SqT K H a xs ∧ xs[i]? = some x, fun i H v H' => ∃ T x, v = .ref T ∧ H T = none ∧ H' = upd H T (.tup [.int (k0 + (i : Nat)), x]) ∧ ∀ xs, SqT K H a xs → xs[i]? = some x, fun i H => ∃ xs : List V, SqT K H a xs ∧ xs.length = i⟩
theorem turn_enumT {P : Program} {w : World} {K : PySem.W.Frag} {elts : List Expr} {kk : Nat} {tpos : Pos} (k0 : Int) (a e it : Addr) :
    Turn P w K (.Tuple elts kk tpos) (ItET K k0 a) [e, it] e (fun i h => (∃ old, IsEnum h e it (k0 + ((i : Nat) : Int)) old) ∧ h.IsTupleIter it a i ∧ e ≠ it ∧ a ≠ it) where
  mem := by simp
  obj := fun i h st b hb => by
    obtain ⟨⟨old, he⟩, ⟨o, ho, hc, hd⟩, _⟩ := st
    have e' : b = e ∨ b = it := by simpa using hb
    rcases e' with z | z
    · rw [z]; exact ⟨_, he, fun v q => nomatch q⟩
    · rw [z]; exact ⟨o, ho, fun v q => by rw [hd] at q; cases q⟩
  keep := fun i h h' st k => let ⟨⟨old, he⟩, hi, hne⟩ := st; ⟨⟨old, k e (by simp) _ he⟩, hi.at fun o q => k it (by simp) o q, hne⟩
  item := by
    intro X hP hw hK hc i pins s σ H E I hf st hg
    subst hP hw hK
    obtain ⟨⟨old, he⟩, hit, hne, hai⟩ := st
    obtain ⟨xs, x, hq, hx⟩ := hg
    obtain ⟨its, rv, p, hz⟩ := I.tuple hq
    obtain ⟨u, hu, ru⟩ := rv.get hx
    have hel : e < s.heap.objs.size := Heap.lt_size he
    have hil : it < s.heap.objs.size := by obtain ⟨_, q, _⟩ := hit; exact Heap.lt_size q
    have hlt : i < its.toArray.size := by
      have := (List.getElem?_eq_some_iff.mp hu).1
      simpa using this
    have hal : s.heap.IsTuple a its.toArray := p
    have hea : e ∉ [it, a] := fun hm => by
      rcases List.mem_cons.mp hm with z | z
      · exact hne z
      · have z := List.mem_singleton.mp z
        obtain ⟨o, ho, hcc, _⟩ := hal
        rw [← z, he] at ho; cases ho
        injection hcc with hcc
        exact absurd hcc (by decide)
    refine wpAny_pyNext_enum_itemC (Draws.tuple (A := X.A.in1) (I.ok.hd hc) it a hai its.toArray) he ⟨hit, hal⟩ hlt hne hea fun x2 h' tk hP ho hs' hT hsz hk => ?_
    have ex2 : u = x2 := by
      have hP : its.toArray[i]? = some x2 := hP
      rw [show its.toArray[i]? = some u by simpa using hu] at hP
      exact Option.some.inj hP
    subst ex2
    refine ⟨_, rfl, wpAny_letOwnedTupleGo_enum (s := { s with heap := h', toks := tk + 1 }) ho fun h'' he' sb => ?_⟩
    have hT2 : h''.get? s.heap.objs.size = some { cls := .type "tuple", data := .seq #[.int (k0 + ((i : Nat) : Int)) tk, u] } := (sb.2 _ (Nat.ne_of_gt hel)).trans hT
    have new : ObjOk X.prog X.w (upd H s.heap.objs.size (.tup [.int (k0 + (i : Nat)), x])) h'' s.heap.objs.size (.tup [.int (k0 + (i : Nat)), x]) :=
      ⟨by show 2 ≤ sizeLine; decide, [.int (k0 + ((i : Nat) : Int)) tk, u], .cons ⟨_, rfl⟩ (.cons ru .nil), ⟨_, hT2, rfl, _, rfl⟩⟩
    have I1 : Inv X pins σ (upd H s.heap.objs.size (.tup [.int (k0 + (i : Nat)), x])) { s with heap := h'', toks := tk + 1 } :=
      I.turnedNew (ch := [e, it]) (fun b ob hb q => (sb.2 b (fun z => hb (by simp [z]))).trans (hk b ob (fun z => hb (by simp [z])) (fun z => hb (by simp [z])) q)) hf (Nat.le_refl _) new
    refine ⟨.ref s.heap.objs.size, _, I1, rfl, ⟨_, x, rfl, I.hok.fresh (Nat.le_refl _), rfl, fun ys hy => by rw [I.tuple_inj hy hq]; exact hx⟩, ⟨⟨u, ?_⟩, hs'.1.at fun o q => (sb.2 it (Ne.symm hne)).trans q, hne, hai⟩, fun b hb => ?_⟩
    · have e1 : k0 + ((i + 1 : Nat) : Int) = k0 + (i : Int) + 1 := by omega
      rw [e1]; exact he'
    · have hb' : b < s.heap.objs.size := by
        have e' : b = e ∨ b = it := by simpa using hb
        rcases e' with z | z
        · rw [z]; exact hel
        · rw [z]; exact hil
      rw [upd_ne (Nat.ne_of_lt hb')]
      exact (hf b hb).1
  done := by
    intro X hP hw hK hc i pins s σ H E I hf st hg
    subst hP hw hK
    obtain ⟨⟨old, he⟩, hit, hne, hai⟩ := st
    obtain ⟨xs, hq, hx⟩ := hg
    obtain ⟨its, rv, p, hz⟩ := I.tuple hq
    obtain ⟨f0, f1, f2, f3, f4, f5⟩ := hf it (by simp)
    have hl := rv.length
    have hal : s.heap.IsTuple a its.toArray := p
    have hn : i = its.toArray.size := by rw [List.size_toArray, ← hl, hx]
    subst hn
    exact wpAny_pyNext_enum_endD (Draws.tuple (A := X.A.in1) (I.ok.hd hc) it a hai its.toArray) he ⟨hit, hal⟩ fun h' eb => ⟨rfl, I.turned (t' := s.toks) (fun b o hb q => eb b o hb q) f0 f1 f3 f4 f5⟩
  self := fun A i s Q E st h => let ⟨⟨_, he⟩, _⟩ := st; wpAny_pyIter_enum he h

set_option maxHeartbeats 1000000 in
theorem meets_enum1 {v : Value} {o : Obj} {H : Heap → Prop} (B : Begins v o H) :
    Meets (Builtin.«enumerate.__new__» ⟨[.type "enumerate", v], []⟩) (fun _ R s => H s.heap ∧
      R (.ok (.ret (.ref (s.heap.push o).objs.size))) { s with heap := (s.heap.push o).push { cls := .type "enumerate", data := .fields #[.none, .bool false, .ref s.heap.objs.size, rawInt 0, .none, .none] } }) :=
  .of_wp fun prog w A R s h => by
    obtain ⟨hp, g, d, tk, os⟩ := s; obtain ⟨h1, h⟩ := h
    have hsub := sub_enumerate
    have q1 : ∀ {A' : Around} {E : Value → Shared → Prop} {Q : Value → Shared → Prop}, Q (.ref hp.objs.size) ⟨hp.push o, g, d, tk, os⟩ → wpAny (model prog w) A' (pyIter v) Q E ⟨hp, g, d, tk, os⟩ :=
      fun q => B.iter prog w _ _ ⟨hp, g, d, tk, os⟩ _ h1 q
    wp_walk using q1
    refine wpAny_stack_any fun st => wpAny_pure ?_
    split
    · rename_i c _ _ _ _ _
      cases (c == Value.type "enumerate")
      · wp_walk using q1
        exact ⟨_, rfl, h⟩
      · wp_walk using q1
        exact ⟨_, rfl, h⟩
    · wp_walk using q1
      exact ⟨_, rfl, h⟩
section
variable {prog : Program} {w : World} {A : Around} {E : Value → Shared → Prop} {s : Shared}
theorem enum_begins1 {v : Value} {o : Obj} {H : Heap → Prop} {Q : Value → Shared → Prop} (B : Begins v o H) (h1 : H s.heap)
    (h : ∀ h', IsEnum h' (s.heap.objs.size + 1) s.heap.objs.size 0 .none → h'.get? s.heap.objs.size = some o → h'.objs.size = s.heap.objs.size + 2 →
      (∀ b o, s.heap.get? b = some o → h'.get? b = some o) → Q (.ref (s.heap.objs.size + 1)) { s with heap := h' }) :
    wpAny (model prog w) A (call (.type "enumerate") [v]) Q E s := by
  refine callType_new F.called_enumerate (by decide) (F.typeCall_enumerate_1 _) (F.newCall_enumerate_1 _) (fun obj => F.args_object_init_2 obj _) F.entry_enumerate_new
    (meets_enum1 B) ⟨h1, ?_⟩
  have hz : (s.heap.push o).objs.size = s.heap.objs.size + 1 := Heap.size_push ..
  show _ ∧ _
  rw [hz]
  have he : IsEnum ((s.heap.push o).push { cls := .type "enumerate", data := .fields #[.none, .bool false, .ref s.heap.objs.size, rawInt 0, .none, .none] }) (s.heap.objs.size + 1) s.heap.objs.size 0 .none := by
    have := Heap.get?_push_size (s.heap.push o) (o := { cls := .type "enumerate", data := .fields #[.none, .bool false, .ref s.heap.objs.size, rawInt 0, .none, .none] }) rfl
    rw [hz] at this; exact this
  refine ⟨⟨_, he, rfl⟩, h _ he (Heap.get?_push_of_some _ (Heap.get?_push_size _ B.free)) (by rw [Heap.size_push, hz]) fun b o x => Heap.get?_push_of_some _ (Heap.get?_push_of_some _ x)⟩
end
section
variable {X : Cx} {E : XK}
def iEnA (K : PySem.W.Frag) (k0 : Int) (te : TE) : TI := fun σ H R => te σ H fun v H1 => ∃ a xs, v = .ref a ∧ ((SqL K H1 a xs ∧ R (ItEL K k0 a) H1) ∨ (SqT K H1 a xs ∧ R (ItET K k0 a) H1))
theorem fresh2 {pins : List (Addr × Obj)} {σ : L2.St} {H : Hp} {s : Shared} (I : Inv X pins σ H s) : ∀ b ∈ [s.heap.objs.size + 1, s.heap.objs.size], FpOk X pins H b := fun b hb => by
  have e' : b = s.heap.objs.size + 1 ∨ b = s.heap.objs.size := by simpa using hb
  have hle : s.heap.objs.size ≤ b := by
    rcases e' with z | z
    · rw [z]; exact Nat.le_add_right _ _
    · rw [z]; exact Nat.le_refl _
  exact I.fpOk hle (I.hok.fresh hle)
theorem enum_come {pins : List (Addr × Obj)} {σ : L2.St} {H : Hp} {s : Shared} {R : It → Hp → Prop} {k0 : Int} {v : V} {u : Value} {kw : List (Str × Value)} {elts : List Expr} {kk : Nat} {tpos : Pos} {args : List Value} (I : Inv X pins σ H s) (rv : RelV v u)
    (h : ∃ a xs, v = .ref a ∧ ((SqL X.K H a xs ∧ R (ItEL X.K k0 a) H) ∨ (SqT X.K H a xs ∧ R (ItET X.K k0 a) H)))
    (call1 : ∀ (o : Obj) (Hp : Heap → Prop) (Q : Value → Shared → Prop), Begins u o Hp → Hp s.heap → (∀ h', IsEnum h' (s.heap.objs.size + 1) s.heap.objs.size k0 .none → h'.get? s.heap.objs.size = some o → h'.objs.size = s.heap.objs.size + 2 →
      (∀ b o, s.heap.get? b = some o → h'.get? b = some o) → Q (.ref (s.heap.objs.size + 1)) { s with heap := h' }) → wpAny (model X.prog X.w) X.A (call (.type "enumerate") args kw) Q X.xe s) :
    wpAny (model X.prog X.w) X.A (call (.type "enumerate") args kw) (fun v s1 => wpAny (model X.prog X.w) X.A (pyIter v) (PIE X pins σ (.Tuple elts kk tpos) R) X.xe s1) X.xe s := by
  obtain ⟨a, xs, rfl, q⟩ := h
  cases rv
  rcases q with ⟨hq, q⟩ | ⟨hq, q⟩
  · obtain ⟨its, rv, p', hz⟩ := I.list hq
    have hlt : a < s.heap.objs.size := by obtain ⟨o, ho, _⟩ := p'.isList; exact Heap.lt_size ho
    refine call1 _ _ _ (begins_list a its.toArray) p'.isList fun h' he ho hsz hk => wpAny_pyIter_enum he ?_
    have I2 : Inv X pins σ H { s with heap := h' } := I.kept (t' := s.toks) hk
    exact ⟨s.heap.objs.size + 1, [s.heap.objs.size + 1, s.heap.objs.size], _, _, H, rfl, I2, turn_enumL k0 a (s.heap.objs.size + 1) s.heap.objs.size, ⟨⟨.none, by simpa using he⟩, ⟨_, ho, rfl, rfl⟩, Nat.succ_ne_self _, Nat.ne_of_lt hlt⟩, fresh2 I, q⟩
  · obtain ⟨its, rv, p', hz⟩ := I.tuple hq
    have hlt : a < s.heap.objs.size := by obtain ⟨o, ho, _⟩ := p'; exact Heap.lt_size ho
    refine call1 _ _ _ (begins_tuple a its.toArray) p' fun h' he ho hsz hk => wpAny_pyIter_enum he ?_
    have I2 : Inv X pins σ H { s with heap := h' } := I.kept (t' := s.toks) hk
    exact ⟨s.heap.objs.size + 1, [s.heap.objs.size + 1, s.heap.objs.size], _, _, H, rfl, I2, turn_enumT k0 a (s.heap.objs.size + 1) s.heap.objs.size, ⟨⟨.none, by simpa using he⟩, ⟨_, ho, rfl, rfl⟩, Nat.succ_ne_self _, Nat.ne_of_lt hlt⟩, fresh2 I, q⟩
theorem ri_enum0 {e : Expr} {m : EM} {p pos tpos : Pos} {elts : List Expr} {kk : Nat} (hg : Gl X "enumerate") (hm : X.mg "enumerate" = none) (he : RE X E e m) (hs : starEach [e] X.env = [(false, eval e X.env)])
    {wi : IM} (hw : ∀ σ H R, rdI X E wi σ H R → rdE X E m σ H fun v H1 => ∃ a xs, v = .ref a ∧ ((SqL X.K H1 a xs ∧ R (ItEL X.K 0 a) H1) ∨ (SqT X.K H1 a xs ∧ R (ItET X.K 0 a) H1))) :
    RI X E (.Tuple elts kk tpos) (.Call (.Name "enumerate" p) [e] [] pos) wi := by
  refine ⟨⟨fun pins s σ H R I h => ?_⟩⟩
  have ha : PA X [e] (tCons (rdE X E m) tNil) := pa_cons he.p pa_nil (by rw [hs]; rfl)
  obtain ⟨r, env, st, A, P⟩ := hw σ H R h
  have h' : tCons (rdE X E m) tNil σ H (fun vs H1 => ∃ v, vs = [v] ∧ ∃ a xs, v = .ref a ∧ ((SqL X.K H1 a xs ∧ R (ItEL X.K 0 a) H1) ∨ (SqT X.K H1 a xs ∧ R (ItET X.K 0 a) H1))) := by
    refine ⟨r, env, st, A, ?_⟩
    cases q : m env st with
    | stuck => rw [q] at P; exact P
    | ex x st1 => rw [q] at P; exact P
    | ok d st1 =>
      rw [q] at P
      exact fun v H1 r1 e1 S1 R1 => ⟨v, rfl, P v H1 r1 e1 S1 R1⟩
  refine Call_ (ld_blt I hg hm boot_enumerate (PyProof.Rows.callWith_type1 (thn (ha.run pos pins s σ H _ I h') fun us s1 ⟨vs, H1, I1, r1, q1⟩ => ?_) hs rfl))
  obtain ⟨v, rfl, q⟩ := q1
  cases r1 with
  | cons r rr =>
    cases rr
    exact enum_come I1 r q fun o Hp Q B h1 h2 => enum_begins1 B h1 h2
/-- the items with their numbers from k0 on -/
def pairs (k0 : Int) (ds : List D) : List D := ds.zipIdx.map fun p => D.tup [.int (k0 + (p.2 : Nat)), p.1]
def enIts (k0 : Int) (st : Sto) (d : D) : Option Its := match d with
  | .tup ds => some ⟨pairs k0 ds, []⟩
  | .lst ds => some ⟨pairs k0 ds, []⟩
  | .ref n => match st[n]? with
    | some (.lst ds) => some ⟨pairs k0 ds, [(n, ds)]⟩
    | _ => none
  | _ => none
def iEnum (k0 : Int) (m : EM) : IM := fun env st => (m env st).bind fun d st1 => match enIts k0 st1 d with
  | some t => .ok t st1
  | none => .stuck
section
variable {K : PySem.W.Frag} {mg : Str → Option Value} {H : Hp} {r : Rg} {st : Sto}
theorem pairs_len {k0 : Int} {ds : List D} : (pairs k0 ds).length = ds.length := by unfold pairs; simp
theorem pairs_get {k0 : Int} {ds : List D} {i : Nat} {d : D} (h : (pairs k0 ds)[i]? = some d) : ∃ x, ds[i]? = some x ∧ d = .tup [.int (k0 + (i : Nat)), x] := by
  unfold pairs at h
  rw [List.getElem?_map] at h
  cases q : ds.zipIdx[i]? with
  | none => rw [q] at h; cases h
  | some p =>
    rw [q] at h
    simp only [Option.map_some, Option.some.injEq] at h
    rw [List.getElem?_zipIdx] at q
    cases q2 : ds[i]? with
    | none => rw [q2] at q; cases q
    | some x =>
      rw [q2] at q
      simp only [Option.map_some, Option.some.injEq] at q
      subst q
      exact ⟨x, rfl, by rw [← h]; simp⟩
/-- a pair that has just been made -/
theorem pair_new {x : D} {v : V} {T : Addr} {y : V} {d : D} (S : StOk K mg H r st) (hd : Rep K H r d y) (hx : Rep K H r x v) (hT : H T = none) : Ext r H r (upd H T (.tup [y, v])) ∧ StOk K mg (upd H T (.tup [y, v])) r st ∧ Rep K (upd H T (.tup [y, v])) r (.tup [d, x]) (.ref T) :=
  ⟨ext_new hT, S.side hT, rep_tup.mpr ⟨T, _, rfl, .inl (.inl upd_same), (by show 2 ≤ sizeLine; decide), Reps.cons (Rep.ext S (ext_new hT) _ _ hd) (Reps.cons (Rep.ext S (ext_new hT) _ _ hx) Reps.nil)⟩⟩
theorem jok_enT {k0 : Int} {ds : List D} {a : Addr} {xs : List V} (S : StOk K mg H r st) (h2 : SqT K H a xs) (h4 : Reps K H r ds xs) : JOk K mg H r ⟨pairs k0 ds, []⟩ (ItET K k0 a) := by
  intro H' r' st' e S' _
  have q2 := SqT.ext S e h2
  have q4 := Reps.ext S e _ _ h4
  refine ⟨fun i d hd => ?_, xs, q2, by rw [← Reps.length q4]; exact pairs_len.symm⟩
  obtain ⟨z, hz, rfl⟩ := pairs_get hd
  obtain ⟨v, hv, R⟩ := Reps.get q4 hz
  refine ⟨⟨xs, v, q2, hv⟩, fun x H2 ⟨T, w, y0, y1, y2, y3⟩ => ?_⟩
  subst y0 y2
  have y4 := y3 xs q2
  rw [hv] at y4; cases y4
  exact pair_new S' (rep_int.mpr rfl) R y1
theorem jok_enL {k0 : Int} {ds : List D} {a : Addr} {xs : List V} (S : StOk K mg H r st) (hn : a ∉ r.l) (h2 : H a = some (.lst xs)) (h4 : Reps K H r ds xs) : JOk K mg H r ⟨pairs k0 ds, []⟩ (ItEL K k0 a) := by
  intro H' r' st' e S' _
  have q2 : SqL K H' a xs := SqL.of (e.keep _ _ hn h2)
  have q4 := Reps.ext S e _ _ h4
  refine ⟨fun i d hd => ?_, xs, q2, by rw [← Reps.length q4]; exact pairs_len.symm⟩
  obtain ⟨z, hz, rfl⟩ := pairs_get hd
  obtain ⟨v, hv, R⟩ := Reps.get q4 hz
  refine ⟨⟨xs, v, q2, hv⟩, fun x H2 ⟨T, w, y0, y1, y2, y3⟩ => ?_⟩
  subst y0 y2
  have y4 := y3 xs q2
  rw [hv] at y4; cases y4
  exact pair_new S' (rep_int.mpr rfl) R y1
theorem jok_enR {k0 : Int} {ds : List D} {n : Nat} {a : Addr} (h : r.l[n]? = some a) : JOk K mg H r ⟨pairs k0 ds, [(n, ds)]⟩ (ItEL K k0 a) := by
  intro H' r' st' e S' hg
  obtain ⟨xs, q1, _, q4⟩ := S'.ob n a _ (e.pre n a h) (hg _ (List.mem_singleton.mpr rfl))
  have q2 : SqL K H' a xs := SqL.of q1
  refine ⟨fun i d hd => ?_, xs, q2, by rw [← Reps.length q4]; exact pairs_len.symm⟩
  obtain ⟨z, hz, rfl⟩ := pairs_get hd
  obtain ⟨v, hv, R⟩ := Reps.get q4 hz
  refine ⟨⟨xs, v, q2, hv⟩, fun x H2 ⟨T, w, y0, y1, y2, y3⟩ => ?_⟩
  subst y0 y2
  have y4 := y3 xs q2
  rw [hv] at y4; cases y4
  exact pair_new S' (rep_int.mpr rfl) R y1
end
theorem en_its {k0 : Int} {m : EM} {σ : L2.St} {H : Hp} {R : It → Hp → Prop} (h : rdI X E (iEnum k0 m) σ H R) : rdE X E m σ H fun v H1 => ∃ a xs, v = .ref a ∧ ((SqL X.K H1 a xs ∧ R (ItEL X.K k0 a) H1) ∨ (SqT X.K H1 a xs ∧ R (ItET X.K k0 a) H1)) := by
  obtain ⟨r, env, st, A, P⟩ := h
  refine ⟨r, env, st, A, post_bind P fun d st1 v H1 r1 e1 S1 R1 P1 => ?_⟩
  unfold enIts at P1
  cases d with
  | tup ds =>
    obtain ⟨a, xs, rfl, h2, h3, h4⟩ := rep_tup.mp R1
    exact ⟨a, xs, rfl, .inr ⟨h2, P1.here S1 (jok_enT S1 h2 h4)⟩⟩
  | lst ds =>
    obtain ⟨a, xs, rfl, hn, _, h2, h3, h4⟩ := rep_lst.mp R1
    exact ⟨a, xs, rfl, .inl ⟨SqL.of h2, P1.here S1 (jok_enL S1 hn h2 h4)⟩⟩
  | ref n =>
    obtain ⟨a, rfl, h2⟩ := rep_ref.mp R1
    obtain ⟨o, eo, q⟩ := S1.there h2
    simp only [eo] at P1
    cases o with
    | lst ds =>
      obtain ⟨xs, q1, _, _⟩ := q
      exact ⟨a, xs, rfl, .inl ⟨SqL.of q1, P1.here S1 (jok_enR h2)⟩⟩
    | _ => exact P1.elim
  | _ => exact P1.elim
theorem ri_enum {e : Expr} {m : EM} {p pos tpos : Pos} {elts : List Expr} {kk : Nat} (hg : Gl X "enumerate") (hm : X.mg "enumerate" = none) (he : RE X E e m) (hs : starEach [e] X.env = [(false, eval e X.env)] := by rfl) :
    RI X E (.Tuple elts kk tpos) (.Call (.Name "enumerate" p) [e] [] pos) (iEnum 0 m) := ri_enum0 hg hm he hs fun σ H R h => en_its h
/-! ## zip of two tuples, of two lists -/
def zipT (xs ys : List D) : List D := (xs.zip ys).map fun p => D.tup [p.1, p.2]
theorem zip_get {xs ys : List D} {i : Nat} {d : D} (h : (zipT xs ys)[i]? = some d) : ∃ x y, xs[i]? = some x ∧ ys[i]? = some y ∧ d = .tup [x, y] := by
  unfold zipT at h
  rw [List.getElem?_map] at h
  cases q : (xs.zip ys)[i]? with
  | none => rw [q] at h; cases h
  | some p =>
    rw [q] at h
    simp only [Option.map_some, Option.some.injEq] at h
    obtain ⟨h1, h2⟩ := List.getElem?_zip_eq_some.mp q
    exact ⟨p.1, p.2, h1, h2, h.symm⟩
theorem zip_len {xs ys : List D} : (zipT xs ys).length = min xs.length ys.length := by unfold zipT; simp
def zipIts (d e : D) : Option Its := match d, e with
  | .tup xs, .tup ys => some ⟨zipT xs ys, []⟩
  | .lst xs, .lst ys => some ⟨zipT xs ys, []⟩
  | _, _ => none
def iZip (m n : EM) : IM := fun env st => (m env st).bind fun d st1 => (n env st1).bind fun e st2 => match zipIts d e with
  | some t => .ok t st2
  | none => .stuck
theorem min_end {a b c : Nat} (h : c = min a b) : a ≤ c ∨ b ≤ c := by omega
theorem ri_zip {e1 e2 : Expr} {m n : EM} {p pos tpos : Pos} {elts : List Expr} {kk : Nat} (hg : Gl X "zip") (hm : X.mg "zip" = none) (h1 : RE X E e1 m) (h2 : RE X E e2 n)
    (hs : starEach [e1, e2] X.env = (false, eval e1 X.env) :: starEach [e2] X.env := by rfl) (hs2 : starEach [e2] X.env = (false, eval e2 X.env) :: starEach [] X.env := by rfl) (hpl : (backTo pos (starEach [e2] X.env)).any (·.1) = false := by rfl) :
    RI X E (.Tuple elts kk tpos) (.Call (.Name "zip" p) [e1, e2] [] pos) (iZip m n) := by
  have ha : PA X [e1, e2] (tCons (rdE X E m) (tCons (rdE X E n) tNil)) := pa_cons h1.p (pa_cons h2.p pa_nil hs2) hs
  refine ⟨pi_weak (RZ.pi_zipA hg hm ha hs hpl) fun σ H R ⟨r, env, st, A, P⟩ => ?_⟩
  refine ⟨r, env, st, A, post_bind P fun d st1 v H1 r1 e1 S1 R1 P1 => ?_⟩
  refine ⟨r1, env, st1, A.later e1 S1, post_bind P1 fun e st2 u H2 r2 e2 S2 R2 P2 => ?_⟩
  have R1 := Rep.ext S1 e2 _ _ R1
  unfold zipIts at P2
  cases d with
  | tup ds =>
    cases e with
    | tup es =>
      obtain ⟨a, xs, rfl, a2, a3, a4⟩ := rep_tup.mp R1
      obtain ⟨b, ys, rfl, b2, b3, b4⟩ := rep_tup.mp R2
      refine ⟨a, b, xs, ys, rfl, .inr ⟨a2, b2, P2.here S2 ?_⟩⟩
      intro H' r' st' e S' _
      have q2 := SqT.ext S2 e a2
      have q4 := Reps.ext S2 e _ _ a4
      have w2 := SqT.ext S2 e b2
      have w4 := Reps.ext S2 e _ _ b4
      refine ⟨fun i d hd => ?_, xs, ys, q2, w2, min_end (by rw [← Reps.length q4, ← Reps.length w4]; exact zip_len)⟩
      obtain ⟨x, y, hx, hy, rfl⟩ := zip_get hd
      obtain ⟨v1, hv1, Rv1⟩ := Reps.get q4 hx
      obtain ⟨v2, hv2, Rv2⟩ := Reps.get w4 hy
      refine ⟨⟨xs, ys, v1, v2, q2, w2, hv1, hv2⟩, fun z H3 ⟨T, x', y', y0, y1, y2, y3, y4⟩ => ?_⟩
      subst y0 y2
      have z3 := y3 xs q2
      rw [hv1] at z3; cases z3
      have z4 := y4 ys w2
      rw [hv2] at z4; cases z4
      exact pair_new S' Rv1 Rv2 y1
    | _ => exact P2.elim
  | lst ds =>
    cases e with
    | lst es =>
      obtain ⟨a, xs, rfl, an, _, a2, a3, a4⟩ := rep_lst.mp R1
      obtain ⟨b, ys, rfl, bn, _, b2, b3, b4⟩ := rep_lst.mp R2
      refine ⟨a, b, xs, ys, rfl, .inl ⟨SqL.of a2, SqL.of b2, P2.here S2 ?_⟩⟩
      intro H' r' st' e S' _
      have q2 : SqL X.K H' a xs := SqL.of (e.keep _ _ an a2)
      have q4 := Reps.ext S2 e _ _ a4
      have w2 : SqL X.K H' b ys := SqL.of (e.keep _ _ bn b2)
      have w4 := Reps.ext S2 e _ _ b4
      refine ⟨fun i d hd => ?_, xs, ys, q2, w2, min_end (by rw [← Reps.length q4, ← Reps.length w4]; exact zip_len)⟩
      obtain ⟨x, y, hx, hy, rfl⟩ := zip_get hd
      obtain ⟨v1, hv1, Rv1⟩ := Reps.get q4 hx
      obtain ⟨v2, hv2, Rv2⟩ := Reps.get w4 hy
      refine ⟨⟨xs, ys, v1, v2, q2, w2, hv1, hv2⟩, fun z H3 ⟨T, x', y', y0, y1, y2, y3, y4⟩ => ?_⟩
      subst y0 y2
      have z3 := y3 xs q2
      rw [hv1] at z3; cases z3
      have z4 := y4 ys w2
      rw [hv2] at z4; cases z4
      exact pair_new S' Rv1 Rv2 y1
    | _ => exact P2.elim
  | _ => exact P2.elim
end
end LB
/- ===== LText ===== -/
set_option Elab.async false
set_option linter.all false
set_option maxRecDepth 100000
set_option autoImplicit false
namespace LB
open PySem PySem.Spec PyProof.Rows L2
section
variable {X : Cx} {E : XK}
/-! ## texts: split, join, partition, startswith -/
def strsOf : List D → Option (List Str)
  | [] => some []
  | .str b :: r => (strsOf r).map (b :: ·)
  | _ => none
theorem strs_of {K : PySem.W.Frag} {H : Hp} {r : Rg} : ∀ {ds : List D} {vs : List V} {bs : List Str}, Reps K H r ds vs → strsOf ds = some bs → vs = bs.map V.str
  | [], vs, bs, R, h => by cases h; rw [Reps] at R; rw [R]; rfl
  | d :: ds, vs, bs, R, h => by
    rw [Reps] at R
    obtain ⟨y, ys, rfl, h2, h3⟩ := R
    cases d with
    | str b =>
      simp only [strsOf, Option.map_eq_some_iff] at h
      obtain ⟨bs', h4, rfl⟩ := h
      rw [rep_str.mp h2, strs_of h3 h4]; rfl
    | _ => simp [strsOf] at h
theorem strsOf_map (bs : List Str) : strsOf (bs.map D.str) = some bs := by
  induction bs with
  | nil => rfl
  | cons b t ih => simp [strsOf, ih]
theorem reps_strs {K : PySem.W.Frag} {H : Hp} {r : Rg} : ∀ bs : List Str, Reps K H r (bs.map D.str) (bs.map V.str)
  | [] => Reps.nil
  | b :: t => Reps.cons (rep_str.mpr rfl) (reps_strs t)
def mSplit : VM := fun d ds st => match d, ds with
  | .str a, [.str b] => if (b.length == 0) = false ∧ a.length + 2 ≤ sizeLine then .ok (.lst ((Txt.split a b).map D.str)) st else .stuck
  | _, _ => .stuck
def mNewSplit : VM := fun d ds st => match d, ds with
  | .str a, [.str b] => if (b.length == 0) = false ∧ a.length + 2 ≤ sizeLine then .ok (.ref st.length) (st ++ [.lst ((Txt.split a b).map D.str)]) else .stuck
  | _, _ => .stuck
abbrev rSplit : V → List V → Hp → VK → Prop := fun x xs H Q => ∃ a b, x = .str a ∧ xs = [.str b] ∧ (b.length == 0) = false ∧ a.length + 2 ≤ sizeLine ∧ rNewStrs (Txt.split a b) H Q
theorem mt_splitA : VMt X E "str" rSplit mSplit := by
  intro H r st x xs d ds Q S R1 R2 P
  unfold mSplit at P
  split at P
  · rename_i a b
    split at P
    · rename_i h
      obtain ⟨v, rfl, R3⟩ := reps1 R2
      have hl : (Txt.split a b).length ≤ sizeLine := Nat.le_trans (PyProof.Rows.split_le a b) h.2
      exact ⟨a, b, rep_str.mp R1, by rw [rep_str.mp R3], h.1, h.2, new_lst S (reps_strs _) (by rw [List.length_map]; exact hl) P⟩
    · exact P.elim
  · exact P.elim
theorem mt_newsplitA : VMt X E "str" rSplit mNewSplit := by
  intro H r st x xs d ds Q S R1 R2 P
  unfold mNewSplit at P
  split at P
  · rename_i a b
    split at P
    · rename_i h
      obtain ⟨v, rfl, R3⟩ := reps1 R2
      have hl : (Txt.split a b).length ≤ sizeLine := Nat.le_trans (PyProof.Rows.split_le a b) h.2
      exact ⟨a, b, rep_str.mp R1, by rw [rep_str.mp R3], h.1, h.2, new_ref S (reps_strs _) (by rw [List.length_map]; exact hl) P⟩
    · exact P.elim
  · exact P.elim
def mJoin : VM := fun d ds st => match d, ds with
  | .str a, [e] => (match seqOf st e with
    | some xs => (match strsOf xs with
      | some ys => if (ys.map (·.length)).sum + ys.length * a.length ≤ 16777216 then .ok (.str (Txt.join a ys)) st else .stuck
      | none => .stuck)
    | none => .stuck)
  | _, _ => .stuck
abbrev rJoin (K : PySem.W.Frag) : V → List V → Hp → VK → Prop := fun x xs H Q => ∃ a p, ∃ ys : List Str, x = .str a ∧ xs = [.ref p] ∧ (SqL K H p (ys.map V.str) ∨ SqT K H p (ys.map V.str)) ∧
    (ys.map (·.length)).sum + ys.length * a.length ≤ 16777216 ∧ Q (.str (Txt.join a ys)) H
theorem mt_joinA : VMt X E "str" (rJoin X.K) mJoin := by
  intro H r st x xs d ds Q S R1 R2 P
  unfold mJoin at P
  split at P
  · rename_i a e
    split at P
    · rename_i zs hz
      split at P
      · rename_i ys hy
        split at P
        · rename_i hs
          obtain ⟨v, rfl, R3⟩ := reps1 R2
          obtain ⟨p, us, rfl, h2, h3, h4⟩ := seq_of S R3 hz
          have e := strs_of h4 hy
          subst e
          exact ⟨a, p, ys, rep_str.mp R1, rfl, h2, hs, P.here S (rep_str.mpr rfl)⟩
        · exact P.elim
      · exact P.elim
    · exact P.elim
  · exact P.elim
def mStarts : VM := fun d ds st => match d, ds with
  | .str a, [.str b] => .ok (.bl (Txt.startswith a b)) st
  | _, _ => .stuck
theorem mt_startsA : VMt X E "str" (fun x xs H Q => ∃ a b, x = .str a ∧ xs = [.str b] ∧ Q (.bl (Txt.startswith a b)) H) mStarts := by
  intro H r st x xs d ds Q S R1 R2 P
  unfold mStarts at P
  split at P
  · rename_i a b
    obtain ⟨v, rfl, R3⟩ := reps1 R2
    exact ⟨a, b, rep_str.mp R1, by rw [rep_str.mp R3], P.here S (rep_bl.mpr rfl)⟩
  · exact P.elim
def mPart : VM := fun d ds st => match d, ds with
  | .str a, [.str b] => if (b.length == 0) = false ∧ a.length ≤ sizeLine then .ok (.tup [.str (Txt.partition a b).1, .str (Txt.partition a b).2.1, .str (Txt.partition a b).2.2]) st else .stuck
  | _, _ => .stuck
theorem mt_partA : VMt X E "str" (fun x xs H Q => ∃ a b, x = .str a ∧ xs = [.str b] ∧ (b.length == 0) = false ∧ a.length ≤ sizeLine ∧
    ∀ p, H p = none → Q (.ref p) (upd H p (.tup [.str (Txt.partition a b).1, .str (Txt.partition a b).2.1, .str (Txt.partition a b).2.2]))) mPart := by
  intro H r st x xs d ds Q S R1 R2 P
  unfold mPart at P
  split at P
  · rename_i a b
    split at P
    · rename_i h
      obtain ⟨v, rfl, R3⟩ := reps1 R2
      exact ⟨a, b, rep_str.mp R1, by rw [rep_str.mp R3], h.1, h.2, new_tup S (Reps.cons (rep_str.mpr rfl) (Reps.cons (rep_str.mpr rfl) (Reps.cons (rep_str.mpr rfl) Reps.nil))) (by show 3 ≤ sizeLine; decide) P⟩
    · exact P.elim
  · exact P.elim
section
variable {o e : Expr} {mo : EM} {m : AM} {apos cpos : Pos}
theorem re_split (ho : RE X E o mo) (ha : RA X E [e] m) (hbase : attributeBase o "split" X.env (eval o X.env) = eval o X.env := by rfl)
    (hfew : ((backTo cpos (starEach [e] X.env)).all (fun x => !x.1) && (backToKw cpos (keywordEach [] X.env)).all (fun x => x.1.isSome)
      && decide ([e].length + ([] : List Keyword).length + (if ([] : List Keyword).isEmpty then 0 else 1) < 30)) = true := by rfl)
    (hline : (apos.endLine == cpos.line) = true := by rfl) (hs : starEach [e] X.env = (false, eval e X.env) :: starEach [] X.env := by rfl) (hplain : (backTo cpos (starEach [] X.env)).any (·.1) = false := by rfl) :
    RE X E (.Call (.Attribute o "split" apos) [e] [] cpos) (cMt "str" mSplit mo m) := re_mt F.plainAttrs_str F.slot_str_split F.type_str_split mt_split mt_splitA ho ha hbase hfew hline hs hplain
theorem re_newsplit (ho : RE X E o mo) (ha : RA X E [e] m) (hbase : attributeBase o "split" X.env (eval o X.env) = eval o X.env := by rfl)
    (hfew : ((backTo cpos (starEach [e] X.env)).all (fun x => !x.1) && (backToKw cpos (keywordEach [] X.env)).all (fun x => x.1.isSome)
      && decide ([e].length + ([] : List Keyword).length + (if ([] : List Keyword).isEmpty then 0 else 1) < 30)) = true := by rfl)
    (hline : (apos.endLine == cpos.line) = true := by rfl) (hs : starEach [e] X.env = (false, eval e X.env) :: starEach [] X.env := by rfl) (hplain : (backTo cpos (starEach [] X.env)).any (·.1) = false := by rfl) :
    RE X E (.Call (.Attribute o "split" apos) [e] [] cpos) (cMt "str" mNewSplit mo m) := re_mt F.plainAttrs_str F.slot_str_split F.type_str_split mt_split mt_newsplitA ho ha hbase hfew hline hs hplain
theorem re_join (ho : RE X E o mo) (ha : RA X E [e] m) (hbase : attributeBase o "join" X.env (eval o X.env) = eval o X.env := by rfl)
    (hfew : ((backTo cpos (starEach [e] X.env)).all (fun x => !x.1) && (backToKw cpos (keywordEach [] X.env)).all (fun x => x.1.isSome)
      && decide ([e].length + ([] : List Keyword).length + (if ([] : List Keyword).isEmpty then 0 else 1) < 30)) = true := by rfl)
    (hline : (apos.endLine == cpos.line) = true := by rfl) (hs : starEach [e] X.env = (false, eval e X.env) :: starEach [] X.env := by rfl) (hplain : (backTo cpos (starEach [] X.env)).any (·.1) = false := by rfl) :
    RE X E (.Call (.Attribute o "join" apos) [e] [] cpos) (cMt "str" mJoin mo m) := re_mt F.plainAttrs_str F.slot_str_join F.type_str_join mt_join mt_joinA ho ha hbase hfew hline hs hplain
theorem re_startswith (ho : RE X E o mo) (ha : RA X E [e] m) (hbase : attributeBase o "startswith" X.env (eval o X.env) = eval o X.env := by rfl)
    (hfew : ((backTo cpos (starEach [e] X.env)).all (fun x => !x.1) && (backToKw cpos (keywordEach [] X.env)).all (fun x => x.1.isSome)
      && decide ([e].length + ([] : List Keyword).length + (if ([] : List Keyword).isEmpty then 0 else 1) < 30)) = true := by rfl)
    (hline : (apos.endLine == cpos.line) = true := by rfl) (hs : starEach [e] X.env = (false, eval e X.env) :: starEach [] X.env := by rfl) (hplain : (backTo cpos (starEach [] X.env)).any (·.1) = false := by rfl) :
    RE X E (.Call (.Attribute o "startswith" apos) [e] [] cpos) (cMt "str" mStarts mo m) := re_mt F.plainAttrs_str F.slot_str_startswith F.type_str_startswith mt_startswith mt_startsA ho ha hbase hfew hline hs hplain
theorem re_partition (ho : RE X E o mo) (ha : RA X E [e] m) (hbase : attributeBase o "partition" X.env (eval o X.env) = eval o X.env := by rfl)
    (hfew : ((backTo cpos (starEach [e] X.env)).all (fun x => !x.1) && (backToKw cpos (keywordEach [] X.env)).all (fun x => x.1.isSome)
      && decide ([e].length + ([] : List Keyword).length + (if ([] : List Keyword).isEmpty then 0 else 1) < 30)) = true := by rfl)
    (hline : (apos.endLine == cpos.line) = true := by rfl) (hs : starEach [e] X.env = (false, eval e X.env) :: starEach [] X.env := by rfl) (hplain : (backTo cpos (starEach [] X.env)).any (·.1) = false := by rfl) :
    RE X E (.Call (.Attribute o "partition" apos) [e] [] cpos) (cMt "str" mPart mo m) := re_mt F.plainAttrs_str F.slot_str_partition F.type_str_partition mt_partition mt_partA ho ha hbase hfew hline hs hplain
theorem re_append (ho : RE X E o mo) (ha : RA X E [e] m) (hbase : attributeBase o "append" X.env (eval o X.env) = eval o X.env := by rfl)
    (hfew : ((backTo cpos (starEach [e] X.env)).all (fun x => !x.1) && (backToKw cpos (keywordEach [] X.env)).all (fun x => x.1.isSome)
      && decide ([e].length + ([] : List Keyword).length + (if ([] : List Keyword).isEmpty then 0 else 1) < 30)) = true := by rfl)
    (hline : (apos.endLine == cpos.line) = true := by rfl) (hs : starEach [e] X.env = (false, eval e X.env) :: starEach [] X.env := by rfl) (hplain : (backTo cpos (starEach [] X.env)).any (·.1) = false := by rfl) :
    RE X E (.Call (.Attribute o "append" apos) [e] [] cpos) (cMt "list" mAppend mo m) := re_mt F.plainAttrs_list F.slot_list_append F.type_list_append mt_append mt_appendA ho ha hbase hfew hline hs hplain
theorem re_popAt (ho : RE X E o mo) (ha : RA X E [e] m) (hbase : attributeBase o "pop" X.env (eval o X.env) = eval o X.env := by rfl)
    (hfew : ((backTo cpos (starEach [e] X.env)).all (fun x => !x.1) && (backToKw cpos (keywordEach [] X.env)).all (fun x => x.1.isSome)
      && decide ([e].length + ([] : List Keyword).length + (if ([] : List Keyword).isEmpty then 0 else 1) < 30)) = true := by rfl)
    (hline : (apos.endLine == cpos.line) = true := by rfl) (hs : starEach [e] X.env = (false, eval e X.env) :: starEach [] X.env := by rfl) (hplain : (backTo cpos (starEach [] X.env)).any (·.1) = false := by rfl) :
    RE X E (.Call (.Attribute o "pop" apos) [e] [] cpos) (cMt "list" mPopAt mo m) := re_mt F.plainAttrs_list F.slot_list_pop F.type_list_pop mt_popAt mt_popAtA ho ha hbase hfew hline hs hplain
theorem re_pop (ho : RE X E o mo) (hbase : attributeBase o "pop" X.env (eval o X.env) = eval o X.env := by rfl)
    (hline : (apos.endLine == cpos.line) = true := by rfl) :
    RE X E (.Call (.Attribute o "pop" apos) [] [] cpos) (cMt0 "list" mPop mo) := re_mt0 F.plainAttrs_list F.slot_list_pop F.type_list_pop mt_pop mt_popA ho hbase hline
end
end
end LB
/- ===== LKit ===== -/
set_option Elab.async false
set_option linter.all false
set_option maxRecDepth 100000
set_option autoImplicit false
namespace LB
open PySem PySem.Spec PyProof.Rows L2
/-- a def that stands at the top by its name, and what it does -/
structure Known (P : Program) (w : World) (K : PySem.W.Frag) (mg : Str → Option Value) (base : Heap) (x : Str) (ps : List Str) (F : FN) (k : Nat) : Prop where
  ex : ∃ f fd, FnOk P w K mg base (L2.CX P w) k f fd ps (spOf K mg ps.length F) ∧ PySem.W.keepIn K (.ref f) = true ∧ Binds K fd ps [] ∧ mg x = some (.ref f) ∧ (∀ (s : Shared) (us : List Value), us.length = ps.length → BindsTo s fd ⟨us, []⟩ (ps.zip us)) ∧ ∃ oc od osl, K.lookup f = some ⟨oc, od, .func fd, osl⟩
section
variable {P : Program} {w : World} {K : PySem.W.Frag} {mg : Str → Option Value} {base : Heap}
theorem Known.of {x : Str} {qual : Str} {params : Arguments} {body : List Stmt} {scope : Scope} {kws : List (Str × V)} {f : Addr} {fd : FuncData} {N ps : List Str} {k : Nat} {gc : Gc} {m : SM} (F : FunD K x qual params body scope [] kws f fd) (g : mg x = some (.ref f)) (S : FnScope N ps scope)
    (hbind : ∀ (kV doc pm : Value) (an : Option Addr) (cdv ct : Value) (us : List Value), us.length = ps.length → bindArgs (PySem.W.fnOf x qual params body scope .none kV doc pm an cdv ct) ⟨us, []⟩ = pure (ps.zip us))
    (hb : ∀ (cdv : Value) (A : Around) (outer : List Env) (sh : Shared) (H : Hp) (E : XK), Ctx (cxOf (L2.CX P w) P w K mg base N qual scope f cdv A outer sh H E) E k → RB (cxOf (L2.CX P w) P w K mg base N qual scope f cdv A outer sh H E) E body m) :
    Known P w K mg base x ps (fnM gc N.length m) (k + 1) :=
  ⟨f, fd, fn_ok F S hb, F.kp, F.bindsN hbind, g, F.bindsA hbind, let ⟨oc, od, _, _, _, _, _, _, _, osl, _, lk, _⟩ := F.ex; ⟨oc, od, osl, lk⟩⟩
end
/-- a law, by what its def does -/
theorem walk_known {l : PySem.W.OpenLaw} {k : Nat} {q : Program} {loose : List Str} {XP : (Str → Option Value) → Heap → Prop} {YP : World → Heap → Prop} {d : DefRec} {x : Str} {m : FN}
    (hn : l.most = some 63) (hdf : d.params.defaults = []) (hr : Room k callerA)
    (F : ∀ (w : World) (mg : Str → Option Value) (h : Heap), YP w h → h.Ns mainGlobals mg →
      ∃ (K : PySem.W.Frag), K.In h ∧ ∀ base : Heap, Known l.prog w K mg base d.name [x] m k)
    (hm : ∀ ns : List Int, ns.length ≤ 63 → ∃ st, m [.scr ns] [] = .ok (.bl true) st) :
    PySem.W.WalkO q loose XP YP l.row.toRowW d [] (fun f vs => PySem.call f vs) := by
  refine Att.attach_call hn hdf fun w s₀ s₁ mg mb fa o pm cd doc a vs ns G Y ho hd hcd hmg hobj hints hlen hg => ?_
  obtain ⟨K, KX, hF⟩ := F w mg _ Y G.T.g
  obtain ⟨f, fd, _, _, _, h4, h5, oc, od, osl, lk⟩ := (hF default).ex
  rw [hmg] at h4; cases h4
  refine law_call (CX := L2.CX l.prog w) (fd := fd) (sp := spOf K mg 1 m) KX G.T.g G.T.b G.T.builtins G.T.nolimit hg hobj hints (Nat.le_trans hlen (by decide)) hr (fun base hb1 hb2 => ?_) (fun s u => h5 s [u] rfl) (fun H hO hS => ?_) fun H e s' h => ?_
  · obtain ⟨f', fd', h1, h2, h3, h4, h5, oc', od', osl', lk'⟩ := (hF base).ex
    rw [hmg] at h4; cases h4
    rw [lk] at lk'; cases lk'
    exact h1
  · refine ⟨⟨[], []⟩, [.scr ns], [], ⟨rfl, List.nodup_nil, fun n a o h => by simp at h, fun a h => by simp at h, fun a h => by simp at h⟩, Reps.cons (rep_scr.mpr ⟨a, rfl, ?_, Nat.le_trans hlen (by decide)⟩) Reps.nil, rfl, ?_⟩
    · rcases hS with h | h
      · exact .inl ⟨by simp, by simp, h⟩
      · exact .inr h
    · obtain ⟨st, e⟩ := hm ns hlen
      rw [e]
      exact fun v H' r' _ _ h => rep_bl.mp h
  · obtain ⟨a, B, H', cls, d, h1, h2, h3, h4, h5, h6, h7, h8⟩ := h
    exact h8
section
variable {X : Cx} {E : XK}
theorem re_fn {k j : Nat} {ps : List Str} {F : FN} {x : Str} {p pos : Pos} {e : Expr} {es : List Expr} {m : AM} (G : Known X.prog X.w X.K X.mg X.base x ps F k) (cx : Ctx X E j) (ha : RA X E (e :: es) m) (hj : k ≤ j := by decide) (hg : Gl X x := by rfl) (hdb : (x == ("__debug__" : Str)) = false := by decide) (he : starEach (e :: es) X.env = (false, eval e X.env) :: starEach es X.env := by rfl) (hpl : (backTo pos (starEach es X.env)).any (·.1) = false := by rfl) :
    RE X E (.Call (.Name x p) (e :: es) [] pos) (cCall ps.length F m) := by
  obtain ⟨f, fd, h1, h2, h3, h4, _⟩ := G.ex
  exact re_call cx h1 h2 h3 h4 hj hg ha hdb he hpl
theorem re_gi {x : Str} {i : Int} {pos : Pos} (hm : ∃ t, X.mg x = some (.int i t)) (hg : Gl X x := by rfl) (hd : (x == ("__debug__" : Str)) = false := by decide) : RE X E (.Name x pos) (cC (.int i)) := by
  obtain ⟨t, h⟩ := hm
  exact re_gint hg h hd
theorem re_gs {x s : Str} {pos : Pos} (hm : ∃ t, X.mg x = some (.str s t)) (hg : Gl X x := by rfl) (hd : (x == ("__debug__" : Str)) = false := by decide) : RE X E (.Name x pos) (cC (.str s)) := by
  obtain ⟨t, h⟩ := hm
  exact re_gstr hg h hd
theorem bt_len : bootBuiltins "len" = some (.builtin "len") := by decide +kernel
theorem bt_all : bootBuiltins "all" = some (.builtin "all") := by decide +kernel
theorem bt_any : bootBuiltins "any" = some (.builtin "any") := by decide +kernel
theorem bt_sum : bootBuiltins "sum" = some (.builtin "sum") := by decide +kernel
theorem bt_max : bootBuiltins "max" = some (.builtin "max") := by decide +kernel
theorem bt_min : bootBuiltins "min" = some (.builtin "min") := by decide +kernel
theorem bt_isinstance : bootBuiltins "isinstance" = some (.builtin "isinstance") := by decide +kernel
theorem bt_tuple : bootBuiltins "tuple" = some (.type "tuple") := by decide +kernel
theorem bt_list : bootBuiltins "list" = some (.type "list") := by decide +kernel
theorem bt_str : bootBuiltins "str" = some (.type "str") := by decide +kernel
theorem bt_int : bootBuiltins "int" = some (.type "int") := by decide +kernel
theorem bt_bool : bootBuiltins "bool" = some (.type "bool") := by decide +kernel
theorem bt_dict : bootBuiltins "dict" = some (.type "dict") := by decide +kernel
section
variable {e e2 : Expr} {m : AM} {p pos : Pos}
theorem re_len (hm : X.mg "len" = none) (ha : RA X E [e] m) (hg : Gl X "len" := by rfl) (he : starEach [e] X.env = (false, eval e X.env) :: starEach [] X.env := by rfl) (hpl : (backTo pos (starEach [] X.env)).any (·.1) = false := by rfl) : RE X E (.Call (.Name "len" p) [e] [] pos) (cBlt (f1 vLen) m) := re_blt call_lenA va_len hg hm bt_len ha (he := he) (hpl := hpl)
theorem re_all (hm : X.mg "all" = none) (hc : X.calm = true) (ha : RA X E [e] m) (hg : Gl X "all" := by rfl) (he : starEach [e] X.env = (false, eval e X.env) :: starEach [] X.env := by rfl) (hpl : (backTo pos (starEach [] X.env)).any (·.1) = false := by rfl) : RE X E (.Call (.Name "all" p) [e] [] pos) (cBlt (f1 vAll) m) := re_blt (cr_all hc) va_all hg hm bt_all ha (he := he) (hpl := hpl)
theorem re_any (hm : X.mg "any" = none) (hc : X.calm = true) (ha : RA X E [e] m) (hg : Gl X "any" := by rfl) (he : starEach [e] X.env = (false, eval e X.env) :: starEach [] X.env := by rfl) (hpl : (backTo pos (starEach [] X.env)).any (·.1) = false := by rfl) : RE X E (.Call (.Name "any" p) [e] [] pos) (cBlt (f1 vAny) m) := re_blt (cr_any hc) va_any hg hm bt_any ha (he := he) (hpl := hpl)
theorem re_sum (hm : X.mg "sum" = none) (hc : X.calm = true) (ha : RA X E [e] m) (hg : Gl X "sum" := by rfl) (he : starEach [e] X.env = (false, eval e X.env) :: starEach [] X.env := by rfl) (hpl : (backTo pos (starEach [] X.env)).any (·.1) = false := by rfl) : RE X E (.Call (.Name "sum" p) [e] [] pos) (cBlt (f1 vSum) m) := re_blt (cr_sum hc) va_sum hg hm bt_sum ha (he := he) (hpl := hpl)
theorem re_max (hm : X.mg "max" = none) (hc : X.calm = true) (ha : RA X E [e, e2] m) (hg : Gl X "max" := by rfl) (he : starEach [e, e2] X.env = (false, eval e X.env) :: starEach [e2] X.env := by rfl) (hpl : (backTo pos (starEach [e2] X.env)).any (·.1) = false := by rfl) : RE X E (.Call (.Name "max" p) [e, e2] [] pos) (cBlt (f2 vMax2) m) := re_blt (call_max2 hc) va_max2 hg hm bt_max ha (he := he) (hpl := hpl)
theorem re_min (hm : X.mg "min" = none) (hc : X.calm = true) (ha : RA X E [e, e2] m) (hg : Gl X "min" := by rfl) (he : starEach [e, e2] X.env = (false, eval e X.env) :: starEach [e2] X.env := by rfl) (hpl : (backTo pos (starEach [e2] X.env)).any (·.1) = false := by rfl) : RE X E (.Call (.Name "min" p) [e, e2] [] pos) (cBlt (f2 vMin2) m) := re_blt (call_min2 hc) va_min2 hg hm bt_min ha (he := he) (hpl := hpl)
theorem re_tupOf (hm : X.mg "tuple" = none) (ha : RA X E [e] m) (hg : Gl X "tuple" := by rfl) (he : starEach [e] X.env = (false, eval e X.env) :: starEach [] X.env := by rfl) (hpl : (backTo pos (starEach [] X.env)).any (·.1) = false := by rfl) : RE X E (.Call (.Name "tuple" p) [e] [] pos) (cBlt (f1 vTup) m) := re_bty call_tuple_of va_tup hg hm bt_tuple ha (he := he) (hpl := hpl)
theorem re_lstOf (hm : X.mg "list" = none) (ha : RA X E [e] m) (hg : Gl X "list" := by rfl) (he : starEach [e] X.env = (false, eval e X.env) :: starEach [] X.env := by rfl) (hpl : (backTo pos (starEach [] X.env)).any (·.1) = false := by rfl) : RE X E (.Call (.Name "list" p) [e] [] pos) (cBlt (f1 vList) m) := re_bty call_list_of va_list hg hm bt_list ha (he := he) (hpl := hpl)
theorem re_newOf (hm : X.mg "list" = none) (ha : RA X E [e] m) (hg : Gl X "list" := by rfl) (he : starEach [e] X.env = (false, eval e X.env) :: starEach [] X.env := by rfl) (hpl : (backTo pos (starEach [] X.env)).any (·.1) = false := by rfl) : RE X E (.Call (.Name "list" p) [e] [] pos) (cBlt (f1 vNewList) m) := re_bty call_list_of va_newlist hg hm bt_list ha (he := he) (hpl := hpl)
theorem re_strOf (hm : X.mg "str" = none) (ha : RA X E [e] m) (hg : Gl X "str" := by rfl) (he : starEach [e] X.env = (false, eval e X.env) :: starEach [] X.env := by rfl) (hpl : (backTo pos (starEach [] X.env)).any (·.1) = false := by rfl) : RE X E (.Call (.Name "str" p) [e] [] pos) (cBlt (f1 vStr) m) := re_bty call_str_int va_str hg hm bt_str ha (he := he) (hpl := hpl)
theorem re_intOf (hm : X.mg "int" = none) (ha : RA X E [e] m) (hg : Gl X "int" := by rfl) (he : starEach [e] X.env = (false, eval e X.env) :: starEach [] X.env := by rfl) (hpl : (backTo pos (starEach [] X.env)).any (·.1) = false := by rfl) : RE X E (.Call (.Name "int" p) [e] [] pos) (cBlt (f1 vIntS) m) := re_bty (CallR.or call_int_str call_int1) va_intS hg hm bt_int ha (he := he) (hpl := hpl)
end
section
variable {e : Expr} {m : EM} {p q pos : Pos}
theorem re_isInt (hm : X.mg "isinstance" = none) (hT : X.mg "int" = none) (he : RE X E e m) (hg : Gl X "isinstance" := by rfl) (hgT : Gl X "int" := by rfl)
    (hs : starEach [e, .Name "int" q] X.env = (false, eval e X.env) :: starEach [.Name "int" q] X.env := by rfl) (hs2 : starEach [.Name "int" q] X.env = (false, eval (.Name "int" q) X.env) :: starEach [] X.env := by rfl)
    (hpl : (backTo pos (starEach [.Name "int" q] X.env)).any (·.1) = false := by rfl) : RE X E (.Call (.Name "isinstance" p) [e, .Name "int" q] [] pos) (c1 (vIsi "int") m) := re_isi hg hm hgT hT bt_int (by decide) (by decide) bt_isinstance he hs hs2 hpl
theorem re_isBool (hm : X.mg "isinstance" = none) (hT : X.mg "bool" = none) (he : RE X E e m) (hg : Gl X "isinstance" := by rfl) (hgT : Gl X "bool" := by rfl)
    (hs : starEach [e, .Name "bool" q] X.env = (false, eval e X.env) :: starEach [.Name "bool" q] X.env := by rfl) (hs2 : starEach [.Name "bool" q] X.env = (false, eval (.Name "bool" q) X.env) :: starEach [] X.env := by rfl)
    (hpl : (backTo pos (starEach [.Name "bool" q] X.env)).any (·.1) = false := by rfl) : RE X E (.Call (.Name "isinstance" p) [e, .Name "bool" q] [] pos) (c1 (vIsi "bool") m) := re_isi hg hm hgT hT bt_bool (by decide) (by decide) bt_isinstance he hs hs2 hpl
theorem re_isTuple (hm : X.mg "isinstance" = none) (hT : X.mg "tuple" = none) (he : RE X E e m) (hg : Gl X "isinstance" := by rfl) (hgT : Gl X "tuple" := by rfl)
    (hs : starEach [e, .Name "tuple" q] X.env = (false, eval e X.env) :: starEach [.Name "tuple" q] X.env := by rfl) (hs2 : starEach [.Name "tuple" q] X.env = (false, eval (.Name "tuple" q) X.env) :: starEach [] X.env := by rfl)
    (hpl : (backTo pos (starEach [.Name "tuple" q] X.env)).any (·.1) = false := by rfl) : RE X E (.Call (.Name "isinstance" p) [e, .Name "tuple" q] [] pos) (c1 (vIsi "tuple") m) := re_isi hg hm hgT hT bt_tuple (by decide) (by decide) bt_isinstance he hs hs2 hpl
theorem re_isStr (hm : X.mg "isinstance" = none) (hT : X.mg "str" = none) (he : RE X E e m) (hg : Gl X "isinstance" := by rfl) (hgT : Gl X "str" := by rfl)
    (hs : starEach [e, .Name "str" q] X.env = (false, eval e X.env) :: starEach [.Name "str" q] X.env := by rfl) (hs2 : starEach [.Name "str" q] X.env = (false, eval (.Name "str" q) X.env) :: starEach [] X.env := by rfl)
    (hpl : (backTo pos (starEach [.Name "str" q] X.env)).any (·.1) = false := by rfl) : RE X E (.Call (.Name "isinstance" p) [e, .Name "str" q] [] pos) (c1 (vIsi "str") m) := re_isi hg hm hgT hT bt_str (by decide) (by decide) bt_isinstance he hs hs2 hpl
end
end
end LB
/- ===== LEnumK ===== -/
set_option Elab.async false
set_option linter.all false
set_option maxRecDepth 100000
set_option autoImplicit false
namespace LB
open PySem PySem.Spec PyProof.Rows L2
theorem callWith_typeK {M : Model} {A : Around} {E : Value → Shared → Prop} {s : Shared} {pos : Pos} {T : String} {first : List Value} {args : List (Bool × Sem Value)} {kws : List (Option Str × Sem Value)} {Q : Value → Shared → Prop} (hplain : (args.any (·.1) || kws.any (·.1.isNone)) = false)
    (h : wpAny M A (evalArgs (.type T) true args kws) (fun a s₁ => wpAny M A (call (.type T) (first ++ a.pos) a.kw) Q E s₁) E s) :
    wpAny M A (callWith pos (.type T) first args kws) Q E s := by
  unfold callWith
  refine wpAny_bind (wpAny_holding (wpAny_mono h (fun a s₁ h₁ => wpAny_bind (wpAny_standAt ?_)) fun _ _ x => x))
  simp only [hplain]
  refine wpAny_bind (wpAny_pure ?_)
  exact wpAny_bind (wpAny_mono h₁ (fun r s₂ hr => wpAny_bind (wpAny_holding (wpAny_point (wpAny_pure hr)))) fun _ _ x => x)
section
variable {X : Cx} {E : XK}
theorem ri_enumK {e : Expr} {m : EM} {p pos tpos kpos p2 : Pos} {elts : List Expr} {kk j : Nat} {k0 : Int} (hm : X.mg "enumerate" = none) (he : RE X E e m) (hk0 : -(2 ^ 63) ≤ k0 := by decide) (hk1 : k0 < 2 ^ 63 := by decide) (hg : Gl X "enumerate" := by rfl) (hs : starEach [e] X.env = (false, eval e X.env) :: starEach [] X.env := by rfl) :
    RI X E (.Tuple elts kk tpos) (.Call (.Name "enumerate" p) [e] [⟨some "start", .Constant (.int k0) j p2, kpos⟩] pos) (iEnum k0 m) := by
  refine ⟨⟨fun pins s σ H R I h => ?_⟩⟩
  have ha : PA X [e] (tCons (rdE X E m) tNil) := pa_cons he.p pa_nil hs
  have hkw : PK X [⟨some "start", .Constant (.int k0) j p2, kpos⟩] (tCons (tC (.int k0)) tNil) := pk_cons pe_int pk_nil
  obtain ⟨r, env, st, A, P⟩ := en_its h
  refine wpAny_Call_Name_kw (ld_blt I hg hm boot_enumerate (callWith_typeK (by rw [hs]; rfl) (evalArgs_kw2 rfl ?_ hs)))
  have h' : tCons (rdE X E m) tNil σ H (fun vs H1 => ∃ v, vs = [v] ∧ ∃ a xs, v = .ref a ∧ ((SqL X.K H1 a xs ∧ R (ItEL X.K k0 a) H1) ∨ (SqT X.K H1 a xs ∧ R (ItET X.K k0 a) H1))) := by
    refine ⟨r, env, st, A, ?_⟩
    cases q : m env st with
    | stuck => rw [q] at P; exact P
    | ex x st1 => rw [q] at P; exact P
    | ok d st1 =>
      rw [q] at P
      exact fun v H1 r1 e1 S1 R1 => ⟨v, rfl, P v H1 r1 e1 S1 R1⟩
  refine thn (ha.run pos pins s σ H _ I h') fun us s1 ⟨vs, H1, I1, r1, v, hv, q⟩ => ?_
  subst hv
  refine thn (hkw.run pos pins s1 σ H1 (fun zs H2 => zs = [.int k0] ∧ H2 = H1) I1 ⟨rfl, rfl⟩) fun ws s2 ⟨zs, H2, I2, rz, e1, e2⟩ => ?_
  subst e1 e2
  cases r1 with
  | cons r rr =>
    cases rr
    cases rz with
    | cons q2 qq =>
      cases qq
      obtain ⟨t, rfl⟩ := q2
      exact enum_come I2 r q fun o Hp Q B h1 h2 => enum_begins_start B h1 hk0 hk1 h2
end
end LB
/- ===== LGuard ===== -/
set_option Elab.async false
set_option linter.all false
set_option maxRecDepth 100000
set_option autoImplicit false
namespace LB
open PySem PySem.Spec PyProof.Rows L2
/-! ## defs that are called where no repr is under way -/
/-- what a call does, where nothing is guarded -/
structure FnG (P : Program) (w : World) (K : PySem.W.Frag) (mg : Str → Option Value) (base : Heap) (k : Nat) (f : Addr) (fd : FuncData) (ps : List Str) (sp : Sp) : Prop where
  run : ∀ (A : Around) (outer : List Env) (s : Shared) (H : Hp) (us : List Value) (vs : List V) (Q : VK) (E : XK), A.guards = some [] → Room k A → Env0 P w K mg base A outer s H → us.length = ps.length → Vals vs us → sp vs H Q E →
    codeAny (model P w) A (.call (.ref f) ⟨us, []⟩) (CR (L2.CX P w) outer P w H s Q E) s
structure CtxG (X : Cx) (E : XK) (k : Nat) : Prop where
  c : Ctx X E k
  g : X.A.guards = some []
theorem CtxG.blk {X : Cx} {E : XK} {k : Nat} (c : CtxG X E k) {s : Shared} {H : Hp} {scope : Scope} {cenv : Env} {fp : List Addr} : CtxG (X.blk s H scope cenv fp) E0 k := ⟨c.c.blk, c.g⟩
section
variable {P : Program} {w : World} {K : PySem.W.Frag} {mg : Str → Option Value} {base : Heap}
/-- such a def by its body -/
theorem fn_okG {x qual : Str} {params : Arguments} {body : List Stmt} {scope : Scope} {kws : List (Str × V)} {f : Addr} {fd : FuncData} {N ps : List Str} {k : Nat} {gc : Gc} {m : SM} (F : FunD K x qual params body scope [] kws f fd) (S : FnScope N ps scope)
    (hbind : ∀ (s : Shared) (us : List Value), us.length = ps.length → BindsTo s fd ⟨us, []⟩ (ps.zip us))
    (hb : ∀ (cdv : Value) (A : Around) (outer : List Env) (sh : Shared) (H : Hp) (E : XK), CtxG (cxOf (L2.CX P w) P w K mg base N qual scope f cdv A outer sh H E) E k → RB (cxOf (L2.CX P w) P w K mg base N qual scope f cdv A outer sh H E) E body m) :
    FnG P w K mg base (k + 1) f fd ps (spOf K mg ps.length (fnM gc N.length m)) := by
  obtain ⟨oc, od, dV, kV, doc, pm, an, cdv, ct, osl, efd, lk, hcd, _, _⟩ := F.ex
  refine ⟨fun A outer s H us vs Q E hG hR e0 hus rv ⟨r, ds, st, S1, RR, hl, P1⟩ => ?_⟩
  have inK : K.In s.heap := e0.mod.kin.keeps fun b o q => (e0.bs b o q).1
  have noLim : s.heap.NoLimit := e0.mod.nolimit.keeps fun b o q => (e0.bs b o q).1
  have hz := hbind s us hus
  subst efd
  have kinds : ∀ y ∈ ps.zip us, scope.names.lookup y.1 = some .local ∨ (scope.names.lookup y.1 = some .cell ∧ ((cellsFrom (s.heap.objs.size + 1) scope.names []).lookup y.1).isSome = true) := fun ⟨n, z⟩ hy =>
    (S.par n (List.of_mem_zip hy).1).elim .inl fun q => .inr ⟨q, PySem.W.cellsFrom_some _ _ _ (.inl q)⟩
  refine codeAny_call_function hR.depth (inK _ _ lk) rfl S.co S.gen rfl (PySem.W.codeRec_of inK hcd) (hz _ _ _ _ (wpAny_newFunctionEnv_cells S.kind kinds fun env he s1 x => ?_))
  subst he
  refine ⟨noLim.keeps x.toInCall.keep, codeAny_func ?_⟩
  have cx : CtxG (cxOf (L2.CX P w) P w K mg base N qual scope f cdv A outer s H E) E k := ⟨⟨passes_call (takes_of rfl rfl rfl rfl) (fun _ _ _ _ h => h), PassesOwn.leaving, hR.deeper _, rfl⟩, hG⟩
  have body_run := (hb cdv A outer s H E cx).p
  have I : Inv (cxOf (L2.CX P w) P w K mg base N qual scope f cdv A outer s H E) [] (L2.start N vs) H s1 := inv_start S hR.hd e0 (by rw [← Reps.length RR]; exact hl) rv x
  have done := body_run.run [] s1 (L2.start N vs) H { nx := fun _ H' => Q .non H', rt := Q } I (body_post (E := E) (gc := gc) S1 RR P1 (fun D σ H q => q))
  refine wpAny_mono done (fun fl s' hs => ?_) fun _ _ hs => hs
  cases fl with
  | next =>
    obtain ⟨σ', H', J, q⟩ := hs
    exact ⟨V.non, H', J.os, J.bare, J.base, J.hok, rfl, q⟩
  | ret u =>
    obtain ⟨v, σ', H', J, rv', q⟩ := hs
    exact ⟨v, H', J.os, J.bare, J.base, J.hok, rv', q⟩
  | brk => exact hs.elim fun _ h => h.elim fun _ h => h.2.elim
  | cont => exact hs.elim fun _ h => h.elim fun _ h => h.2.elim
structure KnownG (P : Program) (w : World) (K : PySem.W.Frag) (mg : Str → Option Value) (base : Heap) (x : Str) (ps : List Str) (F : FN) (k : Nat) : Prop where
  ex : ∃ f fd, FnG P w K mg base k f fd ps (spOf K mg ps.length F) ∧ PySem.W.keepIn K (.ref f) = true ∧ mg x = some (.ref f)
theorem KnownG.of {x : Str} {qual : Str} {params : Arguments} {body : List Stmt} {scope : Scope} {kws : List (Str × V)} {f : Addr} {fd : FuncData} {N ps : List Str} {k : Nat} {gc : Gc} {m : SM} (F : FunD K x qual params body scope [] kws f fd) (g : mg x = some (.ref f)) (S : FnScope N ps scope)
    (hbind : ∀ (kV doc pm : Value) (an : Option Addr) (cdv ct : Value) (us : List Value), us.length = ps.length → bindArgs (PySem.W.fnOf x qual params body scope .none kV doc pm an cdv ct) ⟨us, []⟩ = pure (ps.zip us))
    (hb : ∀ (cdv : Value) (A : Around) (outer : List Env) (sh : Shared) (H : Hp) (E : XK), CtxG (cxOf (L2.CX P w) P w K mg base N qual scope f cdv A outer sh H E) E k → RB (cxOf (L2.CX P w) P w K mg base N qual scope f cdv A outer sh H E) E body m) :
    KnownG P w K mg base x ps (fnM gc N.length m) (k + 1) :=
  ⟨f, fd, fn_okG F S (F.bindsA hbind) hb, F.kp, g⟩
end
section
variable {X : Cx} {E : XK}
/-- a call of such a def -/
theorem re_fnG {k j : Nat} {ps : List Str} {F : FN} {x : Str} {p pos : Pos} {e : Expr} {es : List Expr} {m : AM} (G : KnownG X.prog X.w X.K X.mg X.base x ps F k) (cx : CtxG X E j) (ha : RA X E (e :: es) m) (hj : k ≤ j := by decide) (hg : Gl X x := by rfl) (hdb : (x == ("__debug__" : Str)) = false := by decide) (he : starEach (e :: es) X.env = (false, eval e X.env) :: starEach es X.env := by rfl) (hpl : (backTo pos (starEach es X.env)).any (·.1) = false := by rfl) :
    RE X E (.Call (.Name x p) (e :: es) [] pos) (cCall ps.length F m) := by
  obtain ⟨f, fd, h1, hk, hm⟩ := G.ex
  have pe : PE X (.Call (.Name x p) (e :: es) [] pos) (tCall (spOf X.K X.mg ps.length F) [] E (rdA X E m)) := by
    refine ⟨fun pins s σ H Q I q => wpAny_Call_Name_kw (ld_glob I hg hm ?_ hdb)⟩
    refine PySem.W.callWith_K (h₀ := X.base) I.ok.mod.kin hk (thn (ha.p.run pos pins s σ H _ I q) fun us s1 ⟨vs, H1, I1, rv, sp⟩ => ⟨I1.kIn, wpAny_call (codeAny_mono (h1.run X.A X.stack s1 H1 us vs Q E cx.g (cx.c.hr.mono hj) I1.env0 ?_ rv ?_) fun res s' hq => ?_)⟩) he hpl
    · have sp : spOf X.K X.mg ps.length F (vs ++ []) H1 Q E := sp
      rw [List.append_nil] at sp
      rw [← rv.length]; exact spOf_len _ _ _ _ sp
    · have sp : spOf X.K X.mg ps.length F (vs ++ []) H1 Q E := sp
      rw [List.append_nil] at sp; exact sp
    · cases res with
      | error ev => exact cx.c.hx pins σ H1 s1 ev s' I1 hq
      | ok fl =>
        cases fl with
        | ret u => exact I1.after hq
        | next => exact hq.elim
        | brk => exact hq.elim
        | cont => exact hq.elim
  refine re_pe pe fun σ H Q r env st A P => ?_
  refine ⟨r, env, st, A, post_bind P fun ds st1 vs H1 r1 e1 S1 R1 P1 => ?_⟩
  split at P1
  · rename_i hl
    rw [List.append_nil]
    exact ⟨r1, ds, st1, S1, R1, hl, P1⟩
  · exact P1.elim
end
/-! ## the law's end, of a def that is called where nothing is guarded -/
section
variable {P : Program} {w : World} {K : PySem.W.Frag} {mg mb : Str → Option Value} {fa a : Addr} {s : Shared} {vs : List Value} {ns : List Int}
/-- what is tracked at the beginning: the script, unless it is one of the module's own things -/
def seen0 (K : PySem.W.Frag) (a : Addr) (vs : List Value) (ns : List Int) : Hp := fun b =>
  if b = a ∧ K.lookup a = none then some (.frz { cls := .type "list", data := .seq vs.toArray } (.lst (ns.map V.int))) else none
theorem seen0_some {b : Addr} {u : HO} (h : seen0 K a vs ns b = some u) : b = a ∧ K.lookup a = none ∧ u = .frz { cls := .type "list", data := .seq vs.toArray } (.lst (ns.map V.int)) := by
  unfold seen0 at h
  split at h
  · rename_i c
    cases h
    exact ⟨c.1, c.2, rfl⟩
  · cases h
theorem law_run {k : Nat} {x : Str} {m : FN} {fd : FuncData} (KX : K.In s.heap) (hns : s.heap.Ns mainGlobals mg) (hb : s.heap.Ns builtinsNs mb) (hbb : ∀ x : Str, x ≠ "__name__" → mb x = bootBuiltins x) (hlim : s.heap.NoLimit) (hg : s.gens = #[])
    (ha : s.heap.get? a = some { cls := .type "list", data := .seq vs.toArray }) (hi : IntsAre vs ns) (hl : ns.length ≤ 63) (hr : Room k callerA)
    (F : ∀ base : Heap, FnG P w K mg base k fa fd [x] (spOf K mg 1 m)) (hm : ∃ st, m [.scr ns] [] = .ok (.bl true) st) :
    codeAny (model P w) callerA (.call (.ref fa) ⟨[.ref a], []⟩) (fun r s' => r = .ok (.ret (.bool true)) ∧ OldK s.heap s'.heap ∧ s'.os = s.os ∧ AllBare s'.gens) s := by
  have rv := vals_ints hi
  have lv := hi.length
  generalize hH : seen0 K a vs ns = H
  have only : ∀ {b : Addr} {u : HO}, H b = some u → b = a ∧ K.lookup a = none ∧ u = .frz { cls := .type "list", data := .seq vs.toArray } (.lst (ns.map V.int)) := fun {b u} h => seen0_some (by rw [hH]; exact h)
  -- what is no list is not tracked
  have free : ∀ {b : Addr} {o : Obj}, s.heap.get? b = some o → (∀ n, o.data ≠ .seq vs.toArray n) → H b = none := fun {b o} e h => by
    cases q : H b with
    | none => rfl
    | some u =>
      obtain ⟨rfl, _, _⟩ := only q
      rw [ha] at e
      cases e
      exact absurd rfl (h _)
  have keepNs : ∀ {b : Addr} {f : Str → Option Value}, s.heap.Ns b f → (hidT s.heap H).Ns b f := fun {b f} ⟨o, es, ep, e, d, z⟩ => ⟨o, es, ep, hidT_get e (free e fun n q => by rw [d] at q; cases q), d, z⟩
  have keepK : K.In (hidT s.heap H) := fun b o e => hidT_get (KX b o e) (by
    cases q : H b with
    | none => rfl
    | some u =>
      obtain ⟨rfl, hn, _⟩ := only q
      rw [hn] at e; cases e)
  obtain ⟨mc, l1, l2⟩ := hlim
  have hok : HOk P w H s.heap := fun b u q => by
    obtain ⟨rfl, _, rfl⟩ := only q
    exact ⟨ha, by rw [List.length_map]; exact Nat.le_trans hl (by decide), vs, _, rv, ha⟩
  have e0 : Env0 P w K mg (hidT s.heap H) callerA [] s H :=
    ⟨rfl, ⟨keepK, keepNs hns, ⟨mb, keepNs hb, hbb⟩, ⟨mc, keepNs l1, l2⟩⟩, fun b o e => of_hidT e, Nat.le_of_eq (hidT_size _ _), trivial, fun b h => (List.not_mem_nil h).elim, hok, .of_eq hg⟩
  have hsp : spOf K mg 1 m [.ref a] H (fun v _ => v = .bl true) fun _ _ _ => False := by
    refine ⟨⟨[], []⟩, [.scr ns], [], ⟨rfl, List.nodup_nil, fun n a o h => by simp at h, fun a h => by simp at h, fun a h => by simp at h⟩, Reps.cons (rep_scr.mpr ⟨a, rfl, ?_, Nat.le_trans hl (by decide)⟩) Reps.nil, rfl, ?_⟩
    · cases hk : K.lookup a with
      | none => exact .inl ⟨by simp, by simp, .inr ⟨_, by rw [← hH]; exact if_pos ⟨rfl, hk⟩⟩⟩
      | some o =>
        have e := KX a o hk
        rw [ha] at e
        cases e
        exact .inr ⟨_, vs.toArray, _, hk, rfl, rfl, rfl, by rw [List.size_toArray, lv]; exact Nat.le_trans hl (by decide), by simpa using rv⟩
    · obtain ⟨st, e⟩ := hm
      rw [e]
      exact fun v H' r' _ _ h => rep_bl.mp h
  refine codeAny_mono ((F _).run callerA [] s H [.ref a] [.ref a] _ _ rfl hr e0 rfl (.cons rfl .nil) hsp) fun r s' q => ?_
  cases r with
  | error ev =>
    obtain ⟨_, _, _, _, _, _, _, _, _, _, _, _, bad⟩ := q
    exact bad.elim
  | ok fl =>
    cases fl with
    | ret u =>
      obtain ⟨v, H', os, bare, un, hok', r', q⟩ := q
      have q : v = .bl true := q
      subst q
      obtain rfl : u = Value.bool true := r'
      refine ⟨rfl, OldK.of_keep fun b o e => ?_, os, bare⟩
      cases z : H b with
      | none => exact un.keep b o e z (fun h => (List.not_mem_nil h).elim) (fun h => (List.not_mem_nil h).elim)
      | some u =>
        obtain ⟨rfl, _, rfl⟩ := only z
        obtain ⟨x2, _⟩ := hok' b _ (un.frzs b _ _ z)
        rw [ha] at e; cases e
        exact x2
    | next => exact q.elim
    | brk => exact q.elim
    | cont => exact q.elim
end
theorem walk_knownG {l : PySem.W.OpenLaw} {k : Nat} {q : Program} {loose : List Str} {XP : (Str → Option Value) → Heap → Prop} {YP : World → Heap → Prop} {d : DefRec} {x : Str} {m : FN}
    (hn : l.most = some 63) (hdf : d.params.defaults = []) (hr : Room k callerA)
    (F : ∀ (w : World) (mg : Str → Option Value) (h : Heap), YP w h → h.Ns mainGlobals mg →
      ∃ (K : PySem.W.Frag), K.In h ∧ ∃ f fd, mg d.name = some (.ref f) ∧ ∀ base : Heap, FnG l.prog w K mg base k f fd [x] (spOf K mg 1 m))
    (hm : ∀ ns : List Int, ns.length ≤ 63 → ∃ st, m [.scr ns] [] = .ok (.bl true) st) :
    PySem.W.WalkO q loose XP YP l.row.toRowW d [] (fun f vs => PySem.call f vs) := by
  refine Att.attach_call hn hdf fun w s₀ s₁ mg mb fa o pm cd doc a vs ns G Y ho hd hcd hmg hobj hints hlen hg => ?_
  obtain ⟨K, KX, f, fd, hf, hF⟩ := F w mg _ Y G.T.g
  rw [hmg] at hf; cases hf
  exact law_run KX G.T.g G.T.b G.T.builtins G.T.nolimit hg hobj hints hlen hr hF (hm ns hlen)
end LB
/- ===== LRepr ===== -/
set_option Elab.async false
set_option linter.all false
set_option maxRecDepth 100000
set_option autoImplicit false
namespace LB
open PySem PySem.Spec PyProof.Rows L2
/-! ## repr, where nothing is under way -/
section
variable {prog : Program} {w : World} {A : Around} {E : Value → Shared → Prop} {s : Shared}
theorem repr_call {v : Value} {d : PyData} {as : List Addr} {Q : Value → Shared → Prop} (r : Reads s.heap v d as) (hs : d.showable = true) (hdict : d.hasDict = false) (hz : d.shown.length ≤ sizeLine) (hg : A.guards = some []) (hu : A.units + (d.depth + 2) < cLine)
    (h : ∀ h' u tk, (∀ b o, s.heap.get? b = some o → h'.get? b = some o) → Q (.str d.shown u) { s with heap := h', toks := tk }) : wpAny (model prog w) A (call (.builtin "repr") [v]) Q E s := by
  cases r with
  | none => simp only [PyData.shown] at h; exact P.repr_of_none (h s.heap _ _ fun _ _ e => e)
  | bool b => simp only [PyData.shown] at h; exact P.repr_of_bool (h s.heap _ _ fun _ _ e => e)
  | int i t => simp only [PyData.shown] at h; exact P.repr_of_int (by simpa [PyData.showable] using hs) (h s.heap _ _ fun _ _ e => e)
  | str x t => simp only [PyData.shown] at h hz; exact P.repr_of_str (h s.heap _ _ fun _ _ e => e) hz
  | @tuple a o vs n xs as h1 h2 h3 h4 =>
    have hz' : (tupleText (PyData.shownAll xs)).length ≤ sizeLine := by simpa only [PyData.shown] using hz
    obtain ⟨bs, hb, hk⟩ := ReprAllK.of_readsAll (prog := prog) (w := w) h4 (by simpa [PyData.showable] using hs) (fun hx => by rw [PyData.hasDict] at hdict; rw [hdict] at hx; cases hx) (fun t ht => Nat.le_trans (tupleText_mem_le ht) hz')
    have rd : Reads s.heap (.ref a) (.tuple xs) as := .tuple h1 h2 h3 h4
    have hna : a ∉ bs := not_mem_of_deeper rd (by simp only [PyData.depth]; omega) hb
    simp only [PyData.depth] at hu
    simp only [PyData.shown] at h
    have ty : s.TypeIs (.ref a) "tuple" := ⟨o, h1, h2⟩
    refine Calls.call_function_entry F.kind_repr F.plain_repr F.entry_repr (F.args_repr1 _) ?_
    unfold Builtin.«repr»
    refine wpAny_bind (wpAny_pure (wpAny_bind (wpAny_cRoomFor (show A.units + 1 < cLine by omega) (wpAny_bind (wpAny_specialOf (name := Str.ofString "__repr__") ty F.slot_tuple_repr.lookup ?_)))))
    refine wpAny_bind (m := callSpecialIfBound? (.ref a) (Str.ofString "__repr__")) (wpAny_callSpecialIfBound?_slotG (name := Str.ofString "__repr__") ty F.slot_tuple_repr (call_tuple_reprK h1 h2 h3 hna hk hg (fun b _ => Clear.nil b) (show A.units + 1 + _ < cLine by omega) (fun _ _ e => e) (fun h' u tk kp => ?_) hz'))
    exact wpAny_bind (wpAny_isInstance (T := "str") (b := true) rfl isSubtype_str_str (wpAny_pure ⟨_, rfl, h h' u tk kp⟩))
  | @list a o vs n xs as h1 h2 h3 h4 =>
    have hz' : (listText (PyData.shownAll xs)).length ≤ sizeLine := by simpa only [PyData.shown] using hz
    obtain ⟨bs, hb, hk⟩ := ReprAllK.of_readsAll (prog := prog) (w := w) h4 (by simpa [PyData.showable] using hs) (fun hx => by rw [PyData.hasDict] at hdict; rw [hdict] at hx; cases hx) (fun t ht => Nat.le_trans (listText_mem_le ht) hz')
    have rd : Reads s.heap (.ref a) (.list xs) (a :: as) := .list h1 h2 h3 h4
    have hna : a ∉ bs := not_mem_of_deeper rd (by simp only [PyData.depth]; omega) hb
    simp only [PyData.depth] at hu
    simp only [PyData.shown] at h
    have ty : s.TypeIs (.ref a) "list" := ⟨o, h1, h2⟩
    refine Calls.call_function_entry F.kind_repr F.plain_repr F.entry_repr (F.args_repr1 _) ?_
    unfold Builtin.«repr»
    refine wpAny_bind (wpAny_pure (wpAny_bind (wpAny_cRoomFor (show A.units + 1 < cLine by omega) (wpAny_bind (wpAny_specialOf (name := Str.ofString "__repr__") ty F.slot_list_repr.lookup ?_)))))
    obtain ⟨l⟩ := vs
    cases l with
    | nil =>
      have h4' : ReadsAll s.heap [] xs as := h4
      cases h4'
      simp only [PyData.shownAll, listText_nil] at h
      refine wpAny_bind (m := callSpecialIfBound? (.ref a) (Str.ofString "__repr__")) (wpAny_callSpecialIfBound?_slot (name := Str.ofString "__repr__") ty F.slot_list_repr (call_list_repr_empty ty h1 h3 ?_))
      exact wpAny_bind (wpAny_isInstance (T := "str") (b := true) rfl isSubtype_str_str (wpAny_pure ⟨_, rfl, h s.heap _ _ fun _ _ e => e⟩))
    | cons x l =>
      refine wpAny_bind (m := callSpecialIfBound? (.ref a) (Str.ofString "__repr__")) (wpAny_callSpecialIfBound?_slot (name := Str.ofString "__repr__") ty F.slot_list_repr (call_list_reprK h1 h2 h3 hna (by simpa using hk.length_eq) (fun i y e => hk.item i y (by simpa using e)) hg (fun b _ => Clear.nil b) (show A.units + 1 + _ < cLine by omega) (fun _ _ e => e) (fun h' u tk kp => ?_) hz'))
      exact wpAny_bind (wpAny_isInstance (T := "str") (b := true) rfl isSubtype_str_str (wpAny_pure ⟨_, rfl, h h' u tk kp⟩))
  | dict => rw [PyData.hasDict] at hdict; cases hdict
end
section
variable {X : Cx} {E : XK}
def reprD (st : Sto) (d : D) : Option Str := match toPy st d with
  | some p => if p.showable = true ∧ p.hasDict = false ∧ p.depth ≤ 64 ∧ p.shown.length ≤ sizeLine then some p.shown else none
  | none => none
def vRepr : VF1 := fun d st => match reprD st d with
  | some s => .ok (.str s) st
  | none => .stuck
def rRepr (K : PySem.W.Frag) : List V → Hp → VK → Prop := fun xs H Q => ∃ x p, xs = [x] ∧ Dp K H x p ∧ (p.showable = true ∧ p.hasDict = false ∧ p.depth ≤ 64 ∧ p.shown.length ≤ sizeLine) ∧ Q (.str p.shown) H
theorem cr_repr {k : Nat} (cx : CtxG X E k) : CallR X (.builtin "repr") (rRepr X.K) := by
  intro pins s σ H xs us Q I rv ⟨x, p, e, hd, ⟨h1, h2, h3, h4⟩, q⟩
  subst e
  cases rv with
  | cons r1 rr =>
    cases rr
    obtain ⟨as, rd⟩ := Dp.reads I p x _ hd r1
    have hun := cx.c.hr.un
    exact repr_call rd h1 h2 h4 cx.g (by omega) fun h' u tk kp => ⟨.str p.shown, H, I.kept (t' := tk) kp, ⟨u, rfl⟩, q⟩
theorem va_repr : VA X E (rRepr X.K) (f1 vRepr) := by
  intro H r st xs ds Q S R P
  unfold f1 at P
  split at P
  · obtain ⟨v, rfl, R1⟩ := reps1 R
    unfold vRepr reprD at P
    cases hp : toPy st _ with
    | none => rw [hp] at P; exact P.elim
    | some p =>
      rw [hp] at P
      simp only at P
      split at P
      · rename_i z hz
        split at hz
        · rename_i hc
          cases hz
          exact ⟨v, p, rfl, dp_st S R1 hp, hc, P.here S (rep_str.mpr rfl)⟩
        · cases hz
      · exact P.elim
  · exact P.elim
theorem bt_repr : bootBuiltins "repr" = some (.builtin "repr") := by decide +kernel
theorem re_repr {e : Expr} {m : AM} {p pos : Pos} {k : Nat} (hm : X.mg "repr" = none) (cx : CtxG X E k) (ha : RA X E [e] m) (hg : Gl X "repr" := by rfl) (he : starEach [e] X.env = (false, eval e X.env) :: starEach [] X.env := by rfl) (hpl : (backTo pos (starEach [] X.env)).any (·.1) = false := by rfl) : RE X E (.Call (.Name "repr" p) [e] [] pos) (cBlt (f1 vRepr) m) := re_blt (cr_repr cx) va_repr hg hm bt_repr ha (he := he) (hpl := hpl)
end
end LB
/- ===== LDict ===== -/
set_option Elab.async false
set_option linter.all false
set_option maxRecDepth 100000
set_option autoImplicit false
namespace LB
open PySem PySem.Spec PyProof.Rows L2
/-! ## dicts of int and text keys -/
/-- no tuple lies at a -/
def NoTup (H : Hp) (a : Addr) : Prop := ∀ xs, ¬ Rd H a (.tup xs)
section
variable {K : PySem.W.Frag} {mg : Str → Option Value} {H : Hp} {r : Rg} {st : Sto}
theorem NoTup.ne {a c : Addr} {xs : List V} (h : NoTup H a) (hc : Rd H c (.tup xs)) : c ≠ a := fun e => h xs (e ▸ hc)
mutual
theorem Rep.hidG {a : Addr} {u : HO} (h : NoTup H a) : ∀ (d : D) (v : V), Rep K H (r.ban a) d v → Rep K (upd H a u) (r.ban a) d v
  | .non, _, q => by rw [Rep] at q ⊢; exact q
  | .bl _, _, q => by rw [Rep] at q ⊢; exact q
  | .int _, _, q => by rw [Rep] at q ⊢; exact q
  | .str _, _, q => by rw [Rep] at q ⊢; exact q
  | .tup ds, _, q => by
    rw [Rep] at q ⊢
    obtain ⟨c, zs, h1, h2, h3, h4⟩ := q
    refine ⟨c, zs, h1, ?_, h3, Reps.hidG h ds zs h4⟩
    rcases h2 with h2 | h2
    · have hc := h.ne h2
      rcases h2 with h2 | ⟨o, h2⟩
      · exact .inl (.inl (by rw [upd_ne hc]; exact h2))
      · exact .inl (.inr ⟨o, by rw [upd_ne hc]; exact h2⟩)
    · exact .inr h2
  | .lst ds, _, q => by
    rw [Rep] at q ⊢
    obtain ⟨c, zs, h1, hn, hb, h2, h3, h4⟩ := q
    have hc : c ≠ a := fun e => hb (by rw [e]; exact List.mem_cons_self)
    exact ⟨c, zs, h1, hn, hb, by rw [upd_ne hc]; exact h2, h3, Reps.hidG h ds zs h4⟩
  | .scr ns, _, q => by
    rw [Rep] at q ⊢
    obtain ⟨c, h1, ⟨hn, hb, h2⟩ | hk, h3⟩ := q
    case inr => exact ⟨c, h1, .inr hk, h3⟩
    have hc : c ≠ a := fun e => hb (by rw [e]; exact List.mem_cons_self)
    refine ⟨c, h1, .inl ⟨hn, hb, ?_⟩, h3⟩
    rcases h2 with h2 | ⟨o, h2⟩
    · exact .inl (by rw [upd_ne hc]; exact h2)
    · exact .inr ⟨o, by rw [upd_ne hc]; exact h2⟩
  | .ref n, _, q => by
    rw [Rep] at q ⊢; exact q
theorem Reps.hidG {a : Addr} {u : HO} (h : NoTup H a) : ∀ (ds : List D) (vs : List V), Reps K H (r.ban a) ds vs → Reps K (upd H a u) (r.ban a) ds vs
  | [], _, q => by rw [Reps] at q ⊢; exact q
  | d :: ds, _, q => by
    rw [Reps] at q ⊢
    obtain ⟨y, ys, h1, h2, h3⟩ := q
    exact ⟨y, ys, h1, Rep.hidG h d y h2, Reps.hidG h ds ys h3⟩
end
theorem RepKV.hidG {κ : Type} {a : Addr} {u : HO} (h : NoTup H a) : ∀ (ds : List (κ × D)) (vs : List (κ × V)), RepKV K H (r.ban a) ds vs → RepKV K (upd H a u) (r.ban a) ds vs
  | [], _, q => q
  | (k, d) :: ds, _, q => by
    obtain ⟨v, us, h1, h2, h3⟩ := q
    exact ⟨v, us, h1, Rep.hidG h d v h2, RepKV.hidG h ds us h3⟩
theorem OOk.hidG {a b : Addr} {u : HO} {o : O} (h : NoTup H a) (hb : b ≠ a) (q : OOk K mg H (r.ban a) b o) : OOk K mg (upd H a u) (r.ban a) b o := by
  cases o with
  | lst ds => obtain ⟨xs, h1, h2, h3⟩ := q; exact ⟨xs, by rw [upd_ne hb]; exact h1, h2, Reps.hidG h _ _ h3⟩
  | dK l kvs =>
    cases l with
    | false => obtain ⟨us, h1, h2, h3⟩ := q; exact ⟨us, by rw [upd_ne hb]; exact h1, h2, RepKV.hidG h _ _ h3⟩
    | true => obtain ⟨us, o, h1, h2, h3⟩ := q; exact ⟨us, o, by rw [upd_ne hb]; exact h1, h2, RepKV.hidG h _ _ h3⟩
  | dT kvs => obtain ⟨us, h1, h2, h3⟩ := q; exact ⟨us, by rw [upd_ne hb]; exact h1, h2, RepKV.hidG h _ _ h3⟩
  | ins c fs => obtain ⟨C, dx, us, h1, h2, h3⟩ := q; exact ⟨C, dx, us, h1, by rw [upd_ne hb]; exact h2, RepKV.hidG h _ _ h3⟩
theorem StOk.hidG {a : Addr} {u : HO} (S : StOk K mg H (r.ban a) st) (hn : a ∉ r.l) (h : NoTup H a) : StOk K mg (upd H a u) (r.ban a) st :=
  ⟨S.len, S.nd, fun n b o h1 h2 => (S.ob n b o h1 h2).hidG h fun e => hn (by rw [← e]; exact List.mem_of_getElem? h1), bt_upd S, S.lb⟩
theorem notup_dK {a : Addr} {kvs : List (Key × V)} (h : H a = some (.dK kvs)) : NoTup H a := fun xs q => by
  rcases q with q | ⟨o, q⟩ <;> rw [h] at q <;> cases q
end
def keyOf : D → Option Key
  | .int i => some (.inl i)
  | .str s => some (.inr s)
  | _ => none
theorem key_of {K : PySem.W.Frag} {H : Hp} {r : Rg} {d : D} {v : V} {k : Key} (R : Rep K H r d v) (h : keyOf d = some k) : v = kV k := by
  cases d with
  | int i => cases h; exact rep_int.mp R
  | str s => cases h; exact rep_str.mp R
  | _ => cases h
def putD {κ : Type} [DecidableEq κ] (kvs : List (κ × D)) (k : κ) (d : D) : List (κ × D) :=
  if (kvs.any fun kv => decide (kv.1 = k)) = true then kvs.map (fun kv => if kv.1 = k then (kv.1, d) else kv) else kvs ++ [(k, d)]
def getD {κ : Type} [DecidableEq κ] (kvs : List (κ × D)) (k : κ) : Option D := (kvs.find? fun kv => decide (kv.1 = k)).map (·.2)
section
variable {κ : Type} {K : PySem.W.Frag} {H : Hp} {r : Rg}
theorem RepKV.append : ∀ {ds es : List (κ × D)} {us ws : List (κ × V)}, RepKV K H r ds us → RepKV K H r es ws → RepKV K H r (ds ++ es) (us ++ ws)
  | [], _, us, _, h, t => by have h : us = [] := h; subst h; exact t
  | (k, d) :: ds, _, _, _, h, t => by
    obtain ⟨v, us', rfl, h2, h3⟩ := h
    exact ⟨v, us' ++ _, rfl, h2, RepKV.append h3 t⟩
variable [DecidableEq κ]
theorem RepKV.any (k : κ) : ∀ {ds : List (κ × D)} {us : List (κ × V)}, RepKV K H r ds us → (us.any fun kv => decide (kv.1 = k)) = ds.any fun kv => decide (kv.1 = k)
  | [], us, h => by have h : us = [] := h; subst h; rfl
  | (j, d) :: ds, _, h => by
    obtain ⟨v, us', rfl, h2, h3⟩ := h
    rw [List.any_cons, List.any_cons, RepKV.any k h3]
theorem RepKV.repl (k : κ) {d : D} {v : V} (hd : Rep K H r d v) : ∀ {ds : List (κ × D)} {us : List (κ × V)}, RepKV K H r ds us → RepKV K H r (ds.map fun kv => if kv.1 = k then (kv.1, d) else kv) (us.map fun kv => if kv.1 = k then (kv.1, v) else kv)
  | [], us, h => by have h : us = [] := h; subst h; rfl
  | (j, e) :: ds, _, h => by
    obtain ⟨w, us', rfl, h2, h3⟩ := h
    rw [List.map_cons, List.map_cons]
    by_cases hj : j = k
    · simp only [hj, if_true]
      exact ⟨v, _, rfl, hd, RepKV.repl k hd h3⟩
    · simp only [hj, if_false]
      exact ⟨w, _, rfl, h2, RepKV.repl k hd h3⟩
theorem RepKV.put {ds : List (κ × D)} {us : List (κ × V)} (h : RepKV K H r ds us) (k : κ) {d : D} {v : V} (hd : Rep K H r d v) : RepKV K H r (putD ds k d) (putK us k v) := by
  unfold putD putK
  rw [RepKV.any k h]
  split
  · exact RepKV.repl k hd h
  · exact RepKV.append h ⟨v, [], rfl, hd, rfl⟩
theorem RepKV.val (k : κ) : ∀ {ds : List (κ × D)} {us : List (κ × V)}, RepKV K H r ds us → (getD ds k = none ∧ valV us k = none) ∨ ∃ d v, getD ds k = some d ∧ valV us k = some v ∧ Rep K H r d v
  | [], us, h => by have h : us = [] := h; subst h; exact .inl ⟨rfl, rfl⟩
  | (j, e) :: ds, _, h => by
    obtain ⟨w, us', rfl, h2, h3⟩ := h
    by_cases hj : j = k
    · subst hj
      exact .inr ⟨e, w, by simp [getD], by simp [valV], h2⟩
    · have ih := RepKV.val k h3
      have e1 : getD ((j, e) :: ds) k = getD ds k := by simp [getD, hj]
      have e2 : valV ((j, w) :: us') k = valV us' k := by simp [valV, hj]
      rw [e1, e2]; exact ih
theorem putD_len (ds : List (κ × D)) (k : κ) (d : D) : (putD ds k d).length ≤ ds.length + 1 := by
  unfold putD
  split <;> simp
end
open Classical in
noncomputable def dcM (t : Its) (g : GM) (c : BM) (ke e : EM) : List D → List (Key × D) → Ev → Sto → Res (List (Key × D))
  | [], acc, _, st => if t.Gd st then .ok acc st else .stuck
  | d :: ds, acc, env, st => if t.Gd st then (noEx (g d env st)).bind fun env1 st1 => (noEx (c env1 st1)).bind fun b st2 =>
      if b then (noEx (ke env1 st2)).bind fun y st3 => (noEx (e env1 st3)).bind fun z st4 => (match keyOf y with
        | some k => if acc.length < sizeLine then dcM t g c ke e ds (putD acc k z) env st4 else .stuck
        | none => .stuck)
      else dcM t g c ke e ds acc env st2
    else .stuck
/-- a dict display over what is walked: a thing of the store -/
noncomputable def cDc (mi : IM) (vs : List Nat) (g : GM) (c : BM) (ke e : EM) : EM := fun env st => (mi env st).bind fun t st1 => (noEx (dcM t g c ke e t.xs [] (wipeE env vs) st1)).bind fun kvs st2 => .ok (.ref st2.length) (st2 ++ [.dK false kvs])
section
variable {X : Cx} {E : XK}
theorem dc_fin {H1 H : Hp} {r1 r : Rg} {kvs : List (Key × D)} {us : List (Key × V)} {st : Sto} {Q : VK} {D : Addr} (P : Post (relD X.K) X.K X.mg E H1 r1 (.ok (.ref st.length) (st ++ [.dK false kvs])) Q)
    (hD : H1 D = none) (e : Ext r1 H1 r H) (S : StOk X.K X.mg H r st) (hl : D ∉ r.l) (hb : D ∈ r.b) (hb1 : D ∉ r1.b) (hx : H D = some (.dK us)) (hz : us.length ≤ sizeLine) (hR : RepKV X.K H r kvs us) : Q (.ref D) H := by
  have M : Mv r ⟨r.l ++ [D], r1.b⟩ := mv_take hb e.bsub
  have hg : (r.l ++ [D])[r.l.length]? = some D := by simp
  have mvKV : ∀ {ds : List (Key × LB.D)} {ws : List (Key × V)}, RepKV X.K H r ds ws → RepKV X.K H ⟨r.l ++ [D], r1.b⟩ ds ws := by
    intro ds
    induction ds with
    | nil => intro ws h; exact h
    | cons p t ih =>
      intro ws ⟨v, us', h1, h2, h3⟩
      exact ⟨v, us', h1, Rep.move M _ _ h2, ih h3⟩
  refine P (.ref D) H ⟨r.l ++ [D], r1.b⟩ ⟨fun n a h => M.pre n a (e.pre n a h), fun _ h => h, fun _ h n => absurd h n, fun a ha hn => ?_, e.keep⟩ ⟨?_, ?_, fun n b x h1 h2 => ?_, fun a ha => S.bt a (e.bsub a ha), fun a ha hc => ?_⟩ (rep_ref.mpr ⟨D, rfl, by rw [← S.len]; exact hg⟩)
  · rcases List.mem_append.mp ha with q | q
    · exact e.new a q hn
    · rw [List.mem_singleton.mp q]; exact hD
  · show (r.l ++ [D]).length = _
    rw [List.length_append, List.length_append, S.len]; rfl
  · show (r.l ++ [D]).Nodup
    rw [List.nodup_append]
    refine ⟨S.nd, by simp, fun b hb c hc => ?_⟩
    rw [List.mem_singleton.mp hc]
    exact fun e => hl (e ▸ hb)
  · have h1 : (r.l ++ [D])[n]? = some b := h1
    by_cases hn : n < r.l.length
    · rw [List.getElem?_append_left hn] at h1
      rw [List.getElem?_append_left (by rw [← S.len]; exact hn)] at h2
      exact (S.ob n b x h1 h2).move M
    · have hn' : n = r.l.length := by
        have := (List.getElem?_eq_some_iff.mp h1).1
        rw [List.length_append] at this
        have h3 : [D].length = 1 := rfl
        omega
      subst hn'
      rw [hg] at h1; cases h1
      rw [S.len] at h2
      simp at h2; subst h2
      exact ⟨us, hx, hz, mvKV hR⟩
  · have ha : a ∈ r.l ++ [D] := ha
    rcases List.mem_append.mp ha with q | q
    · exact S.lb a q (e.bsub a hc)
    · rw [List.mem_singleton.mp q] at hc
      exact hb1 hc
theorem RepKV.ofExt {r r' : Rg} {H H' : Hp} {st : Sto} (S : StOk X.K X.mg H r st) (e : Ext r H r' H') {ds : List (Key × D)} {us : List (Key × V)} (h : RepKV X.K H r ds us) : RepKV X.K H' r' ds us := RepKV.ext S e _ _ h
theorem dc_run {mi : IM} {is vs : List Nat} {g : GM} {c : BM} {ke e : EM} {σ : L2.St} {H : Hp} {Q : VK} {r : Rg} {env : Ev} {st : Sto} (hv : ∀ i ∈ is, i ∈ vs) (A : Abs X.K X.mg H r σ env st)
    (P : Post (relD X.K) X.K X.mg E H r (cDc mi vs g c ke e env st) Q) :
    tDc (rdI X E mi) (rdG X E0 is g) (rdT X E0 c) (rdE X E0 ke) (rdE X E0 e) vs σ H Q := by
  refine ⟨r, env, st, A, post_bind (rel := relI X.K X.mg) P fun t st1 J H1 r1 e1 S1 J1 P1 => ?_⟩
  have J1 : JOk X.K X.mg H1 r1 t J := J1
  intro D hD
  obtain ⟨kvs, st2, hc, F⟩ : ∃ kvs st2, dcM t g c ke e t.xs [] (wipeE env vs) st1 = .ok kvs st2 ∧ Post (relD X.K) X.K X.mg E H1 r1 (.ok (.ref st2.length) (st2 ++ [.dK false kvs])) Q := by
    cases q : dcM t g c ke e t.xs [] (wipeE env vs) st1 with
    | stuck => rw [q] at P1; exact P1.elim
    | ex x st2 => rw [q] at P1; exact P1.elim
    | ok kvs st2 => rw [q] at P1; exact ⟨kvs, st2, rfl, P1⟩
  have A1 := (A.later e1 S1).wipe vs
  have hDl : D ∉ r1.l := fun hm => by
    obtain ⟨u, hu⟩ := S1.mem hm
    rw [hD] at hu; cases hu
  have hDb : D ∉ r1.b := fun hm => by
    obtain ⟨u, hu⟩ := S1.bt D hm
    rw [hD] at hu; cases hu
  have A1' : Abs X.K X.mg (upd H1 D (.dK [])) (r1.ban D) (L2.wipe σ vs) (wipeE env vs) st1 := A1.later (ext_ban hD) (S1.toBan hD)
  refine ⟨fun i m H => m + i = t.xs.length ∧ ∃ r st acc us, Ext r1 H1 r H ∧ Abs X.K X.mg H r (L2.wipe σ vs) (wipeE env vs) st ∧ D ∉ r.l ∧ (∃ b0, r.b = D :: b0) ∧ H D = some (.dK us) ∧ us.length ≤ sizeLine ∧ RepKV X.K H r acc us ∧ dcM t g c ke e (t.xs.drop i) acc (wipeE env vs) st = .ok kvs st2,
    ⟨t.xs.length, rfl, r1.ban D, st1, [], [], ext_ban hD, A1', hDl, ⟨_, rfl⟩, upd_same, Nat.zero_le _, rfl, hc⟩, ?_⟩
  rintro i m H2 ⟨hm, r2, st3, acc, us, e2, A2, hn, hb2, hDa, hla, hR, hcm⟩
  have hgd : t.Gd st3 := by
    cases q : t.xs.drop i with
    | nil =>
      rw [q, dcM] at hcm
      split at hcm
      · assumption
      · cases hcm
    | cons d ds =>
      rw [q, dcM] at hcm
      split at hcm
      · assumption
      · cases hcm
  obtain ⟨h1, h2⟩ := J1 H2 r2 st3 e2 A2.so hgd
  by_cases hlt : i < t.xs.length
  · have hx : t.xs[i]? = some t.xs[i] := List.getElem?_eq_getElem hlt
    obtain ⟨h3, h4⟩ := h1 i _ hx
    rw [List.drop_eq_getElem_cons hlt, dcM, if_pos hgd] at hcm
    refine .inr ⟨h3, fun H => ∃ r st acc us, Ext r1 H1 r H ∧ Abs X.K X.mg H r (L2.wipe σ vs) (wipeE env vs) st ∧ D ∉ r.l ∧ (∃ b0, r.b = D :: b0) ∧ H D = some (.dK us) ∧ us.length ≤ sizeLine ∧ RepKV X.K H r acc us ∧ dcM t g c ke e (t.xs.drop (i + 1)) acc (wipeE env vs) st = .ok kvs st2,
      fun H' q => ⟨m - 1, by omega, by omega, q⟩, fun x H3 y => ?_⟩
    obtain ⟨e3, S3, R3⟩ := h4 x H3 y
    have hD3 : H3 D = some (.dK us) := e3.keep _ _ hn hDa
    refine ⟨r2, wipeE env vs, st3, t.xs[i], A2.later e3 S3, R3, ?_⟩
    cases q : g t.xs[i] (wipeE env vs) st3 with
    | stuck => rw [q] at hcm; cases hcm
    | ex x st4 => rw [q] at hcm; cases hcm
    | ok env4 st4 =>
      rw [q, noEx_ok, bind_ok] at hcm
      intro σ4 H4 r4 e4 A4 sb
      have e24 := e3.trans e4
      have hD4 : H4 D = some (.dK us) := e4.keep _ _ hn hD3
      have hn4 : D ∉ r4.l := fun hm => by
        have := e4.new D hm hn
        rw [hD3] at this; cases this
      refine ⟨by rw [sb vs hv, wipe_wipe], r4, env4, st4, A4, ?_⟩
      cases q5 : c env4 st4 with
      | stuck => rw [q5] at hcm; cases hcm
      | ex x st5 => rw [q5] at hcm; cases hcm
      | ok b st5 =>
        rw [q5, noEx_ok, bind_ok] at hcm
        intro b' H5 r5 e5 S5 Rb
        have Rb : b' = b := Rb
        subst Rb
        have e25 := e24.trans e5
        have hD5 : H5 D = some (.dK us) := e5.keep _ _ hn4 hD4
        have hn5 : D ∉ r5.l := fun hm => by
          have := e5.new D hm hn4
          rw [hD4] at this; cases this
        have norm : ∀ {r : Rg} {H : Hp} {st : Sto}, Ext r2 H2 r H → StOk X.K X.mg H r st → Ext r2 H2 ⟨r.l, r2.b⟩ H ∧ StOk X.K X.mg H ⟨r.l, r2.b⟩ st := fun {r H st} e S =>
          ⟨⟨e.pre, fun _ h => h, fun _ h n => absurd h n, e.new, e.keep⟩, StOk.less e.bsub S⟩
        cases b' with
        | false =>
          rw [if_neg Bool.false_ne_true] at hcm ⊢
          obtain ⟨e25', S5'⟩ := norm e25 S5
          exact ⟨⟨r5.l, r2.b⟩, st5, acc, us, e2.trans e25', A2.later e25' S5', hn5, hb2, hD5, hla, RepKV.ofExt A2.so e25' hR, hcm⟩
        | true =>
          rw [if_pos rfl] at hcm ⊢
          refine ⟨r5, env4, st5, A4.later e5 S5, ?_⟩
          cases q6 : ke env4 st5 with
          | stuck => rw [q6] at hcm; cases hcm
          | ex x st6 => rw [q6] at hcm; cases hcm
          | ok y6 st6 =>
            rw [q6, noEx_ok, bind_ok] at hcm
            intro v6 H6 r6 e6 S6 R6
            have e26 := e25.trans e6
            have hD6 : H6 D = some (.dK us) := e6.keep _ _ hn5 hD5
            have hn6 : D ∉ r6.l := fun hm => by
              have := e6.new D hm hn5
              rw [hD5] at this; cases this
            refine ⟨r6, env4, st6, (A4.later e5 S5).later e6 S6, ?_⟩
            cases q7 : e env4 st6 with
            | stuck => rw [q7] at hcm; cases hcm
            | ex x st7 => rw [q7] at hcm; cases hcm
            | ok z7 st7 =>
              rw [q7, noEx_ok, bind_ok] at hcm
              intro v7 H7 r7 e7 S7 R7
              have e27 := e26.trans e7
              have hD7 : H7 D = some (.dK us) := e7.keep _ _ hn6 hD6
              have hn7 : D ∉ r7.l := fun hm => by
                have := e7.new D hm hn6
                rw [hD6] at this; cases this
              split at hcm
              · rename_i k hk
                split at hcm
                · rename_i hacc
                  obtain ⟨b0, hb0⟩ := hb2
                  obtain ⟨e27', S7'⟩ := norm e27 S7
                  have R7' : Rep X.K H7 ⟨r7.l, r2.b⟩ z7 v7 := Rep.move (mv_less e27.bsub) _ _ R7
                  have hlen : us.length = acc.length := by
                    have : ∀ {ds : List (Key × LB.D)} {ws : List (Key × V)}, RepKV X.K H2 r2 ds ws → ws.length = ds.length := by
                      intro ds
                      induction ds with
                      | nil => intro ws h; have h : ws = [] := h; subst h; rfl
                      | cons p t ih => intro ws ⟨v, us', h1, h2, h3⟩; rw [h1, List.length_cons, List.length_cons, ih h3]
                    exact this hR
                  rw [hb0] at e27' S7' R7'
                  refine ⟨us, k, key_of R6 hk, hD7, by omega, ?_⟩
                  have nt := notup_dK hD7
                  have hR7 := RepKV.ofExt A2.so e27' hR
                  have A7 : Abs X.K X.mg H7 (Rg.ban ⟨r7.l, b0⟩ D) (L2.wipe σ vs) (wipeE env vs) st7 := A2.later e27' S7'
                  refine ⟨Rg.ban ⟨r7.l, b0⟩ D, st7, putD acc k z7, putK us k v7, (e2.trans e27').hid hD, ⟨StOk.hidG A7.so hn7 nt, A7.len, fun i d h => ?_⟩, hn7, ⟨b0, rfl⟩, upd_same, ?_, ?_, hcm⟩
                  · obtain ⟨v, q1, q2⟩ := A7.sl i d h
                    exact ⟨v, q1, Rep.hidG nt d v q2⟩
                  · have := length_putK us k v7
                    omega
                  · exact RepKV.put (RepKV.hidG nt _ _ hR7) k (Rep.hidG nt _ _ R7')
                · cases hcm
              · cases hcm
  · have hi : i = t.xs.length := by omega
    subst hi
    rw [List.drop_length, dcM, if_pos hgd] at hcm
    cases hcm
    obtain ⟨b0, hb0⟩ := hb2
    exact .inl ⟨h2, dc_fin F hD e2 A2.so hn (by rw [hb0]; exact List.mem_cons_self) hDb hDa hla hR⟩
end
end LB
/- ===== LDict2 ===== -/
set_option Elab.async false
set_option linter.all false
set_option maxRecDepth 100000
set_option autoImplicit false
namespace LB
open PySem PySem.Spec PyProof.Rows L2
section
variable {X : Cx} {E : XK}
theorem re_dc {kx vx tg iter : Expr} {ifs : List Expr} {scope : Scope} {own : List (Str × Nat)} {pos : Pos} {mi : IM} {is : List Nat} {g : GM} {c : BM} {ke e : EM} (L : LcOk X E tg iter vx ifs scope own mi is g c e)
    (hk : ∀ (s : Shared) (H : Hp) (C : Addr) (cl : List (Str × Addr)) (fp : List Addr), RE (X.blk s H scope (compEnvC scope cl C X.env) fp) E0 kx ke) (hs : ∀ x, foldedSetIterable iter X.env x = pure x := by intro _; rfl) :
    RE X E (.DictComp kx vx [⟨tg, iter, ifs, 0⟩] scope pos) (cDc mi (own.map (·.2)) g c ke e) :=
  re_pe (pe_dc (g := rdG X E0 is g) (tt := rdT X E0 c) (tk := rdE X E0 ke) (tv := rdE X E0 e) L.calm L.nd L.hi.p L.blk (fun s H C cl fp => (L.hg s H C cl fp).p) (fun s H C cl fp => (L.ht s H C cl fp).p) (fun s H C cl fp => (hk s H C cl fp).p) (fun s H C cl fp => (L.he s H C cl fp).p) hs)
    fun σ H Q r env st A P => dc_run (E := E) (is := is) (fun i hi => by simpa using List.all_eq_true.mp L.hv i hi) A P
def dKof (st : Sto) : D → Option (Nat × List (Key × D))
  | .ref n => match st[n]? with
    | some (.dK false kvs) => some (n, kvs)
    | _ => none
  | _ => none
theorem dK_at {K : PySem.W.Frag} {mg : Str → Option Value} {H : Hp} {r : Rg} {st : Sto} (S : StOk K mg H r st) {d : D} {v : V} {n : Nat} {kvs : List (Key × D)} (R : Rep K H r d v) (h : dKof st d = some (n, kvs)) :
    ∃ a us, v = .ref a ∧ r.l[n]? = some a ∧ st[n]? = some (.dK false kvs) ∧ H a = some (.dK us) ∧ us.length ≤ sizeLine ∧ RepKV K H r kvs us := by
  cases d with
  | ref m =>
    obtain ⟨a, h1, h2⟩ := rep_ref.mp R
    simp only [dKof] at h
    cases q : st[m]? with
    | none => rw [q] at h; cases h
    | some o =>
      rw [q] at h
      cases o with
      | dK l us =>
        cases l with
        | false =>
          cases h
          obtain ⟨us, q1, q2, q3⟩ := S.ob _ a _ h2 q
          exact ⟨a, us, h1, h2, q, q1, q2, q3⟩
        | true => cases h
      | _ => cases h
  | _ => cases h
theorem hu1 {k : Nat} (cx : Ctx X E k) : X.A.units + 1 < cLine := by have := cx.hr.un; omega
/-- d.get(k) -/
def cDGet (o k : EM) : EM := fun env st => (o env st).bind fun d st1 => match dKof st1 d with
  | some _ => (k env st1).bind fun y st2 => (match dKof st2 d, keyOf y with
    | some p, some key => .ok ((getD p.2 key).getD .non) st2
    | _, _ => .stuck)
  | none => .stuck
theorem re_dget1 {o e : Expr} {mo mk : EM} {apos cpos : Pos} {k : Nat} (cx : Ctx X E k) (ho : RE X E o mo) (he : RE X E e mk) (m : M1 X o "get" apos e cpos := by exact ⟨rfl, rfl, rfl, rfl⟩) : RE X E (.Call (.Attribute o "get" apos) [e] [] cpos) (cDGet mo mk) := by
  refine re_pe (pe_dget1 (hu1 cx) ho.p he.p m) fun σ H Q r env st A P => ?_
  refine ⟨r, env, st, A, post_bind P fun d st1 v H1 r1 e1 S1 R1 P1 => ?_⟩
  split at P1
  · rename_i p hp
    obtain ⟨n, kvs⟩ := p
    obtain ⟨a, us, rfl, hr, hs, hH, _, _⟩ := dK_at S1 R1 hp
    refine ⟨a, rfl, .inl ⟨us, .inl hH⟩, r1, env, st1, A.later e1 S1, post_bind P1 fun y st2 w H2 r2 e2 S2 R2 P2 => ?_⟩
    split at P2
    · rename_i p2 key hp2 hk
      obtain ⟨n2, kvs2⟩ := p2
      obtain ⟨a2, us2, ea, hr2, _, hH2, _, hR2⟩ := dK_at S2 (Rep.ext S1 e2 _ _ R1) hp2
      cases ea
      refine ⟨valV us2 key, .inl ⟨us2, key, .inl hH2, key_of R2 hk, rfl⟩, ?_⟩
      rcases RepKV.val key hR2 with ⟨z1, z2⟩ | ⟨z, x, z1, z2, z3⟩
      · rw [z1] at P2
        rw [z2]
        exact P2.here S2 (rep_non.mpr rfl)
      · rw [z1] at P2
        rw [z2]
        exact P2.here S2 z3
    · exact P2.elim
  · exact P1.elim
/-- d[k] -/
def cDIx (o k : EM) : EM := fun env st => (o env st).bind fun d st1 => (k env st1).bind fun y st2 => match dKof st2 d, keyOf y with
  | some p, some key => (match getD p.2 key with
    | some z => .ok z st2
    | none => .stuck)
  | _, _ => .stuck
theorem re_dix {o e : Expr} {mo mk : EM} {pos : Pos} {k : Nat} (cx : Ctx X E k) (ho : RE X E o mo) (he : RE X E e mk) (hs : NoSl e := by intro _ _; rfl) : RE X E (.Subscript o e pos) (cDIx mo mk) := by
  refine re_pe (pe_dget (hu1 cx) ho.p he.p hs) fun σ H Q r env st A P => ?_
  refine ⟨r, env, st, A, post_bind P fun d st1 v H1 r1 e1 S1 R1 P1 => ?_⟩
  refine ⟨r1, env, st1, A.later e1 S1, post_bind P1 fun y st2 w H2 r2 e2 S2 R2 P2 => ?_⟩
  split at P2
  · rename_i p2 key hp2 hk
    obtain ⟨n2, kvs2⟩ := p2
    obtain ⟨a2, us2, rfl, hr2, _, hH2, _, hR2⟩ := dK_at S2 (Rep.ext S1 e2 _ _ R1) hp2
    rcases RepKV.val key hR2 with ⟨z1, z2⟩ | ⟨z, x, z1, z2, z3⟩
    · rw [z1] at P2; exact P2.elim
    · rw [z1] at P2
      exact ⟨a2, x, rfl, .inl ⟨us2, key, .inl hH2, key_of R2 hk, z2.symm⟩, P2.here S2 z3⟩
  · exact P2.elim
/-- k in d, k not in d -/
def cDIn (neg : Bool) (k o : EM) : EM := fun env st => (k env st).bind fun y st1 => (o env st1).bind fun d st2 => match dKof st2 d, keyOf y with
  | some p, some key => .ok (.bl (if neg then !(getD p.2 key).isSome else (getD p.2 key).isSome)) st2
  | _, _ => .stuck
theorem din_run {neg : Bool} {mk mo : EM} {σ : L2.St} {H : Hp} {Q : VK} {r : Rg} {env : Ev} {st : Sto} (A : Abs X.K X.mg H r σ env st) (P : Post (relD X.K) X.K X.mg E H r (cDIn neg mk mo env st) Q) :
    rdE X E mk σ H fun y H1 => rdE X E mo σ H1 fun x H2 => ∃ a o, x = .ref a ∧ DGet H2 a y o ∧ Q (.bl (if neg then !o.isSome else o.isSome)) H2 := by
  refine ⟨r, env, st, A, post_bind P fun y st1 v H1 r1 e1 S1 R1 P1 => ?_⟩
  refine ⟨r1, env, st1, A.later e1 S1, post_bind P1 fun d st2 w H2 r2 e2 S2 R2 P2 => ?_⟩
  split at P2
  · rename_i p2 key hp2 hk
    obtain ⟨n2, kvs2⟩ := p2
    obtain ⟨a2, us2, rfl, hr2, _, hH2, _, hR2⟩ := dK_at S2 R2 hp2
    refine ⟨a2, valV us2 key, rfl, .inl ⟨us2, key, .inl hH2, key_of (Rep.ext S1 e2 _ _ R1) hk, rfl⟩, ?_⟩
    have e : (getD kvs2 key).isSome = (valV us2 key).isSome := by
      rcases RepKV.val key hR2 with ⟨z1, z2⟩ | ⟨z, x, z1, z2, z3⟩ <;> rw [z1, z2] <;> rfl
    rw [e] at P2
    exact P2.here S2 (rep_bl.mpr rfl)
  · exact P2.elim
theorem re_din {k o : Expr} {mk mo : EM} {pos : Pos} {j : Nat} (cx : Ctx X E j) (hk : RE X E k mk) (ho : RE X E o mo) (hm : behindInMarks .In o = false := by rfl) : RE X E (.Compare k [.In] [o] pos) (cDIn false mk mo) :=
  re_pe (pe_cmp (pc_din (hu1 cx) hk.p ho.p) hm) fun σ H Q r env st A P => din_run (neg := false) (E := E) A P
theorem re_dnotin {k o : Expr} {mk mo : EM} {pos : Pos} {j : Nat} (cx : Ctx X E j) (hk : RE X E k mk) (ho : RE X E o mo) (hm : behindInMarks .NotIn o = false := by rfl) : RE X E (.Compare k [.NotIn] [o] pos) (cDIn true mk mo) :=
  re_pe (pe_cmp (pc_dnotin (hu1 cx) hk.p ho.p) hm) fun σ H Q r env st A P => din_run (neg := true) (E := E) A P
theorem rt_din {k o : Expr} {mk mo : EM} {pos : Pos} {j : Nat} (cx : Ctx X E j) (hk : RE X E k mk) (ho : RE X E o mo) (hm : behindInMarks .In o = false := by rfl) : RT X E (.Compare k [.In] [o] pos) (cB (cDIn false mk mo)) := by
  refine rt_weak (pt_cmp (pc_din (hu1 cx) hk.p ho.p) hm) fun σ H Q r env st A P => ?_
  exact to_b (X := X) (E := E) (t := tDIn (rdE X E mk) (rdE X E mo)) (fun Q P => din_run (neg := false) (E := E) A P) P
theorem rt_dnotin {k o : Expr} {mk mo : EM} {pos : Pos} {j : Nat} (cx : Ctx X E j) (hk : RE X E k mk) (ho : RE X E o mo) (hm : behindInMarks .NotIn o = false := by rfl) : RT X E (.Compare k [.NotIn] [o] pos) (cB (cDIn true mk mo)) := by
  refine rt_weak (pt_cmp (pc_dnotin (hu1 cx) hk.p ho.p) hm) fun σ H Q r env st A P => ?_
  exact to_b (X := X) (E := E) (t := tDNotIn (rdE X E mk) (rdE X E mo)) (fun Q P => din_run (neg := true) (E := E) A P) P
/-- {} -/
def cNewD : EM := fun _ st => .ok (.ref st.length) (st ++ [.dK false []])
theorem re_newd {pos : Pos} : RE X E (.Dict [] [] pos) cNewD := by
  refine re_pe pe_dnewK fun σ H Q r env st A P p hp => ?_
  have e := ext_push (o := .dK []) A.so hp
  exact P (.ref p) _ (r.push p) e (A.so.push hp ⟨[], upd_same, Nat.zero_le _, rfl⟩) (rep_ref.mpr ⟨p, rfl, by rw [← A.so.len]; exact get_append_new r p⟩)
/-- d[k] = v -/
def sDPutM (o k v : EM) : SM := fun env st => (v env st).bind fun z st1 => (o env st1).bind fun d st2 => (k env st2).bind fun y st3 => match dKof st3 d, keyOf y with
  | some p, some key => if p.2.length < sizeLine then .ok (.nx env) (st3.set p.1 (.dK false (putD p.2 key z))) else .stuck
  | _, _ => .stuck
theorem RepKV.len2 {κ : Type} {K : PySem.W.Frag} {H : Hp} {r : Rg} : ∀ {ds : List (κ × D)} {us : List (κ × V)}, RepKV K H r ds us → ds.length = us.length
  | [], us, h => by have h : us = [] := h; subst h; rfl
  | (k, d) :: ds, _, h => by
    obtain ⟨v, us', rfl, h2, h3⟩ := h
    rw [List.length_cons, List.length_cons, RepKV.len2 h3]
theorem wr_dK {H : Hp} {r : Rg} {st : Sto} {n : Nat} {a : Addr} {kvs : List (Key × D)} {us : List (Key × V)} (S : StOk X.K X.mg H r st) (h : r.l[n]? = some a) (R : RepKV X.K H r kvs us) (hz : us.length ≤ sizeLine) : Ext r H r (upd H a (.dK us)) ∧ StOk X.K X.mg (upd H a (.dK us)) r (st.set n (.dK false kvs)) := by
  have e : Ext r H r (upd H a (.dK us)) := ext_write h
  exact ⟨e, S.write h ⟨us, upd_same, hz, RepKV.ext S e _ _ R⟩⟩
theorem rs_dput {o k v : Expr} {mo mk mv : EM} {pos pos' : Pos} {j : Nat} (cx : Ctx X E j) (ho : RE X E o mo) (hk : RE X E k mk) (hv : RE X E v mv) (hs : swapsWith v (some (.Subscript o k pos')) pos.line X.env = pure false := by rfl) :
    RS X E (.Assign [.Subscript o k pos'] v pos) (sDPutM mo mk mv) := by
  refine rs_weak (ps_dput (hu1 cx) ho.p hk.p hv.p hs) fun D σ H r env st A P => ?_
  refine ⟨r, env, st, A, postS_bind P fun z st1 w H1 r1 e1 S1 R1 P1 => ?_⟩
  refine ⟨r1, env, st1, A.later e1 S1, postS_bind P1 fun d st2 x H2 r2 e2 S2 R2 P2 => ?_⟩
  refine ⟨r2, env, st2, (A.later e1 S1).later e2 S2, postS_bind P2 fun y st3 u H3 r3 e3 S3 R3 P3 => ?_⟩
  split at P3
  · rename_i p key hp hky
    obtain ⟨n, kvs⟩ := p
    split at P3
    · rename_i hl
      obtain ⟨a, us, rfl, hr, hst, hH, hz, hR⟩ := dK_at S3 (Rep.ext S2 e3 _ _ R2) hp
      have R1' := Rep.ext S1 (e2.trans e3) _ _ R1
      have hlen := RepKV.len2 hR
      have hl' : us.length < sizeLine := by rw [← hlen]; exact hl
      obtain ⟨e4, S4⟩ := wr_dK S3 hr (RepKV.put hR key R1') (Nat.le_trans (length_putK us key w) hl')
      refine ⟨a, _, rfl, .inl ⟨us, key, hH, key_of R3 hky, hl', rfl⟩, ?_⟩
      exact P3 σ _ r3 e4 ((((A.later e1 S1).later e2 S2).later e3 S3).later e4 S4)
    · exact P3.elim
  · exact P3.elim
/-- d.setdefault(k, x) -/
def cDSet (o k x : EM) : EM := fun env st => (o env st).bind fun d st1 => match dKof st1 d with
  | some _ => (k env st1).bind fun y st2 => (x env st2).bind fun z st3 => (match dKof st3 d, keyOf y with
    | some p, some key => (match getD p.2 key with
      | some w => .ok w st3
      | none => if p.2.length < sizeLine then .ok z (st3.set p.1 (.dK false (putD p.2 key z))) else .stuck)
    | _, _ => .stuck)
  | none => .stuck
end
end LB
/- ===== Mir ===== -/
set_option Elab.async false
set_option linter.all false
set_option maxRecDepth 100000
set_option maxHeartbeats 0
set_option autoImplicit false
namespace LB
open PySem PySem.Spec PyProof.Rows L2
/- is_whole(thing): thing 0 -/
noncomputable def b_is_whole : SM := (sRet (cAnd (c1 (vIsi "int") (cVar 0)) (cNot (c1 (vIsi "bool") (cVar 0)))))
noncomputable def m_is_whole : FN := fnM .keep 1 b_is_whole
/- is_among(thing, low, high): thing 0, low 1, high 2 -/
noncomputable def b_is_among : SM := (sRet (cAnd (cCall 1 m_is_whole (aCons (cVar 0) aNil)) (cChain vLe vLe (cVar 1) (cVar 0) (cVar 2))))
noncomputable def m_is_among : FN := fnM .keep 3 b_is_among
/- is_row(thing, low, high): thing 0, low 1, high 2 -/
noncomputable def b_is_row : SM := (sRet (cAnd (c1 (vIsi "tuple") (cVar 0)) (cChain vLe vLe (cVar 1) (cBlt (f1 vLen) (aCons (cVar 0) aNil)) (cVar 2))))
noncomputable def m_is_row : FN := fnM .keep 3 b_is_row
/- are_rising(numbers): numbers 0, one 1, other 2 -/
noncomputable def b_are_rising : SM := (sRet (cBlt (f1 vAll) (aCons (cLc (iZip (cVar 0) (cSl (cVar 0) (oSome (cC (.int 1))) oNone)) [1, 2] (gTp 2 (gsCons (gNm 1) (gsCons (gNm 2) gsNil))) bYes (c2 vLt (cVar 1) (cVar 2))) aNil)))
noncomputable def m_are_rising : FN := fnM .keep 3 b_are_rising
/- is_road_row(thing, crossings): thing 0, crossings 1, one 2 -/
noncomputable def b_is_road_row : SM := (sSeq (sIf (bOr (bNot (cTruth (cCall 3 m_is_row (aCons (cVar 0) (aCons (cC (.int 3)) (aCons (cC (.int 3)) aNil)))))) (bNot (cTruth (cCall 3 m_is_among (aCons (c2 vIx (cVar 0) (cC (.int 2))) (aCons (cC (.int 1)) (aCons (cC (.int 5)) aNil))))))) (sRet (cC (.bl false))) sPass)
    (sRet (cBlt (f1 vAll) (aCons (cLc (iSeq (cSl (cVar 0) oNone (oSome (cC (.int 2))))) [2] (gNm 2) bYes (cCall 3 m_is_among (aCons (cVar 2) (aCons (cC (.int 0)) (aCons (c2 vSub (cVar 1) (cC (.int 1))) aNil))))) aNil))))
noncomputable def m_is_road_row : FN := fnM .keep 3 b_is_road_row
/- is_turn(thing, ending): thing 0, ending 1, road 2 -/
noncomputable def b_is_turn : SM := (sSeq (sIf (bOr (bNot (cTruth (cCall 3 m_is_row (aCons (cVar 0) (aCons (cC (.int 2)) (aCons (cC (.int 2)) aNil)))))) (bOr (bNot (cTruth (cCall 3 m_is_among (aCons (c2 vIx (cVar 0) (cC (.int 0))) (aCons (cC (.int 1)) (aCons (cC (.int 12)) aNil)))))) (bNot (cTruth (c1 (vIsi "tuple") (c2 vIx (cVar 0) (cC (.int 1)))))))) (sRet (cC (.bl false))) sPass)
    (sRet (cAnd (cBlt (f1 vAll) (aCons (cLc (iSeq (c2 vIx (cVar 0) (cC (.int 1)))) [2] (gNm 2) bYes (cAnd (cCall 1 m_is_whole (aCons (cVar 2) aNil)) (c2 (vIn false) (cVar 2) (cVar 1)))) aNil)) (cCall 1 m_are_rising (aCons (c2 vIx (cVar 0) (cC (.int 1))) aNil)))))
noncomputable def m_is_turn : FN := fnM .keep 3 b_is_turn
/- are_lights(thing, around, ending): thing 0, around 1, ending 2, turn 3, beats 4, green 5 -/
noncomputable def b_are_lights : SM := (sSeq (sIf (cB (c1 (vIsN false) (cVar 0))) (sRet (cC (.bl true))) sPass)
    (sSeq (sIf (bOr (bNot (cTruth (cCall 3 m_is_row (aCons (cVar 0) (aCons (cC (.int 2)) (aCons (cC (.int 2)) aNil)))))) (bOr (bNot (cTruth (cCall 3 m_is_among (aCons (c2 vIx (cVar 0) (cC (.int 0))) (aCons (cC (.int 0)) (aCons (c2 vSub (cVar 1) (cC (.int 1))) aNil)))))) (bNot (cTruth (cCall 3 m_is_row (aCons (c2 vIx (cVar 0) (cC (.int 1))) (aCons (cC (.int 1)) (aCons (cC (.int 4)) aNil)))))))) (sRet (cC (.bl false))) sPass)
    (sSeq (sIf (bNot (cTruth (cBlt (f1 vAll) (aCons (cLc (iSeq (c2 vIx (cVar 0) (cC (.int 1)))) [3] (gNm 3) bYes (cCall 2 m_is_turn (aCons (cVar 3) (aCons (cVar 2) aNil)))) aNil)))) (sRet (cC (.bl false))) sPass)
    (sRet (c2 vEq (cBlt (f1 vSum) (aCons (cLc (iSeq (c2 vIx (cVar 0) (cC (.int 1)))) [4, 5] (gTp 2 (gsCons (gNm 4) (gsCons (gNm 5) gsNil))) bYes (cVar 4)) aNil)) (cVar 1))))))
noncomputable def m_are_lights : FN := fnM .keep 6 b_are_lights
/- ends_at(roads, crossing): roads 0, crossing 1, number 2, begin 3, end 4, long 5 -/
noncomputable def b_ends_at : SM := (sRet (cLc (iEnum 0 (cVar 0)) [2, 3, 4, 5] (gTp 2 (gsCons (gNm 2) (gsCons (gTp 3 (gsCons (gNm 3) (gsCons (gNm 4) (gsCons (gNm 5) gsNil)))) gsNil))) (cB (c2 vEq (cVar 4) (cVar 1))) (cVar 2)))
noncomputable def m_ends_at : FN := fnM .keep 6 b_ends_at
/- is_town(thing): thing 0, crossings 1, around 2, roads 3, lights 4, road 5, crossing 6, one 7 -/
noncomputable def b_is_town : SM := (sSeq (sIf (bOr (bNot (cTruth (cCall 3 m_is_row (aCons (cVar 0) (aCons (cC (.int 4)) (aCons (cC (.int 4)) aNil)))))) (bOr (bNot (cTruth (cCall 3 m_is_among (aCons (c2 vIx (cVar 0) (cC (.int 0))) (aCons (cC (.int 1)) (aCons (cC (.int 6)) aNil)))))) (bNot (cTruth (cCall 3 m_is_among (aCons (c2 vIx (cVar 0) (cC (.int 1))) (aCons (cC (.int 1)) (aCons (cC (.int 12)) aNil)))))))) (sRet (cC (.bl false))) sPass)
    (sSeq (sAsg (cVar 0) (gTp 4 (gsCons (gNm 1) (gsCons (gNm 2) (gsCons (gNm 3) (gsCons (gNm 4) gsNil))))))
    (sSeq (sIf (bOr (bNot (cTruth (cCall 3 m_is_row (aCons (cVar 3) (aCons (cC (.int 1)) (aCons (cC (.int 10)) aNil)))))) (bNot (cTruth (cBlt (f1 vAll) (aCons (cLc (iSeq (cVar 3)) [5] (gNm 5) bYes (cCall 2 m_is_road_row (aCons (cVar 5) (aCons (cVar 1) aNil)))) aNil))))) (sRet (cC (.bl false))) sPass)
    (sSeq (sIf (bNot (cTruth (cCall 3 m_is_row (aCons (cVar 4) (aCons (cVar 1) (aCons (cVar 1) aNil)))))) (sRet (cC (.bl false))) sPass)
    (sRet (cBlt (f1 vAll) (aCons (cLc (iEnum 0 (cVar 4)) [6, 7] (gTp 2 (gsCons (gNm 6) (gsCons (gNm 7) gsNil))) bYes (cCall 3 m_are_lights (aCons (cVar 7) (aCons (cVar 2) (aCons (cCall 2 m_ends_at (aCons (cVar 3) (aCons (cVar 6) aNil))) aNil))))) aNil)))))))
noncomputable def m_is_town : FN := fnM .keep 8 b_is_town
/- need_town(thing): thing 0 -/
noncomputable def b_need_town : SM := (sIf (bNot (cTruth (cCall 1 m_is_town (aCons (cVar 0) aNil)))) sStuck sPass)
noncomputable def m_need_town : FN := fnM .keep 1 b_need_town
/- numbers_text(numbers): numbers 0, number 1 -/
noncomputable def b_numbers_text : SM := (sRet (cOrT (cMt "str" mJoin (cC (.str ",")) (aCons (cLc (iSeq (cVar 0)) [1] (gNm 1) bYes (cBlt (f1 vStr) (aCons (cVar 1) aNil))) aNil)) (cC (.str "-"))))
noncomputable def m_numbers_text : FN := fnM .keep 2 b_numbers_text
/- lights_text(crossing, lights): crossing 0, lights 1, rows 2, beats 3, green 4 -/
noncomputable def b_lights_text : SM := (sSeq (sAsg (cLc (iSeq (c2 vIx (cVar 1) (cC (.int 1)))) [3, 4] (gTp 2 (gsCons (gNm 3) (gsCons (gNm 4) gsNil))) bYes (cJoin [(c1 vFmt (cVar 3)), (cC (.str ":")), (c1 vFmt (cCall 1 m_numbers_text (aCons (cVar 4) aNil)))] Str.empty)) (gNm 2))
    (sRet (cMt "str" mJoin (cC (.str " ")) (aCons (c2 vAdd (cLst (aCons (cC (.str "lights")) (aCons (cBlt (f1 vStr) (aCons (cVar 0) aNil)) (aCons (cBlt (f1 vStr) (aCons (c2 vIx (cVar 1) (cC (.int 0))) aNil)) aNil)))) (cVar 2)) aNil))))
noncomputable def m_lights_text : FN := fnM .keep 5 b_lights_text
/- town_by(town): town 0, lines 1, begin 2, end 3, long 4, crossing 5, one 6, line 7 -/
noncomputable def b_town_by : SM := (sSeq (sAsg (c2 vAdd (cLst (aCons (cJoin [(cC (.str "town ")), (c1 vFmt (c2 vIx (cVar 0) (cC (.int 0)))), (cC (.str " ")), (c1 vFmt (c2 vIx (cVar 0) (cC (.int 1))))] Str.empty) aNil)) (cLc (iSeq (c2 vIx (cVar 0) (cC (.int 2)))) [2, 3, 4] (gTp 3 (gsCons (gNm 2) (gsCons (gNm 3) (gsCons (gNm 4) gsNil)))) bYes (cJoin [(cC (.str "road ")), (c1 vFmt (cVar 2)), (cC (.str " ")), (c1 vFmt (cVar 3)), (cC (.str " ")), (c1 vFmt (cVar 4))] Str.empty))) (gNm 1))
    (sSeq (sAsg (c2 vAdd (cVar 1) (cLc (iEnum 0 (c2 vIx (cVar 0) (cC (.int 3)))) [5, 6] (gTp 2 (gsCons (gNm 5) (gsCons (gNm 6) gsNil))) (cB (c1 (vIsN true) (cVar 6))) (cCall 2 m_lights_text (aCons (cVar 5) (aCons (cVar 6) aNil))))) (gNm 1))
    (sRet (cMt "str" mJoin (cC (.str "")) (aCons (cLc (iSeq (cVar 1)) [7] (gNm 7) bYes (c2 vAdd (cVar 7) (cC (.str "\n")))) aNil)))))
noncomputable def m_town_by : FN := fnM .keep 8 b_town_by
/- town_text(town): town 0 -/
noncomputable def b_town_text : SM := (sSeq (sDrop (cCall 1 m_need_town (aCons (cVar 0) aNil)))
    (sRet (cCall 1 m_town_by (aCons (cVar 0) aNil))))
noncomputable def m_town_text : FN := fnM .keep 1 b_town_text
/- number_in(word): word 0, sign 1 -/
noncomputable def b_number_in : SM := (sSeq (sIf (bOr (bNot (cB (cChain vLe vLe (cC (.int 1)) (cBlt (f1 vLen) (aCons (cVar 0) aNil)) (cC (.int 12))))) (bNot (cTruth (cBlt (f1 vAll) (aCons (cLc (iSeq (cVar 0)) [1] (gNm 1) bYes (c2 (vIn false) (cVar 1) (cC (.str "0123456789")))) aNil))))) (sRet (cC .non)) sPass)
    (sRet (cIf (bOr (cB (c2 vNe (c2 vIx (cVar 0) (cC (.int 0))) (cC (.str "0")))) (cB (c2 vEq (cVar 0) (cC (.str "0"))))) (cBlt (f1 vIntS) (aCons (cVar 0) aNil)) (cC .non))))
noncomputable def m_number_in : FN := fnM .keep 2 b_number_in
/- numbers_in(words): words 0, found 1, word 2 -/
noncomputable def b_numbers_in : SM := (sSeq (sAsg (cLc (iSeq (cVar 0)) [2] (gNm 2) bYes (cCall 1 m_number_in (aCons (cVar 2) aNil))) (gNm 1))
    (sRet (cIf (cB (c2 (vIn false) (cC .non) (cVar 1))) (cC .non) (cBlt (f1 vTup) (aCons (cVar 1) aNil)))))
noncomputable def m_numbers_in : FN := fnM .keep 3 b_numbers_in
/- roads_in(word): word 0 -/
noncomputable def b_roads_in : SM := (sRet (cCall 1 m_numbers_in (aCons (cMt "str" mSplit (cVar 0) (aCons (cC (.str ",")) aNil)) aNil)))
noncomputable def m_roads_in : FN := fnM .keep 1 b_roads_in
/- turn_in(word): word 0, beats 1, sign 2, roads 3, green 4, found 5 -/
noncomputable def b_turn_in : SM := (sSeq (sAsg (cMt "str" mPart (cVar 0) (aCons (cC (.str ":")) aNil)) (gTp 3 (gsCons (gNm 1) (gsCons (gNm 2) (gsCons (gNm 3) gsNil)))))
    (sSeq (sAsg (cIf (cB (c2 vEq (cVar 3) (cC (.str "-")))) (cTup aNil) (cCall 1 m_roads_in (aCons (cVar 3) aNil))) (gNm 4))
    (sSeq (sAsg (cCall 1 m_number_in (aCons (cVar 1) aNil)) (gNm 5))
    (sRet (cIf (bOr (cB (c2 vEq (cVar 2) (cC (.str "")))) (bOr (cB (c1 (vIsN false) (cVar 5))) (cB (c1 (vIsN false) (cVar 4))))) (cC .non) (cTup (aCons (cVar 5) (aCons (cVar 4) aNil))))))))
noncomputable def m_turn_in : FN := fnM .keep 6 b_turn_in
/- numbers_line(words, many): words 0, many 1 -/
noncomputable def b_numbers_line : SM := (sRet (cIf (cB (c2 vEq (cBlt (f1 vLen) (aCons (cVar 0) aNil)) (c2 vAdd (cVar 1) (cC (.int 1))))) (cCall 1 m_numbers_in (aCons (cSl (cVar 0) (oSome (cC (.int 1))) oNone) aNil)) (cC .non)))
noncomputable def m_numbers_line : FN := fnM .keep 2 b_numbers_line
/- lights_line(words): words 0, head 1, rows 2, word 3 -/
noncomputable def b_lights_line : SM := (sSeq (sIf (cB (c2 vLt (cBlt (f1 vLen) (aCons (cVar 0) aNil)) (cC (.int 4)))) (sRet (cC .non)) sPass)
    (sSeq (sPar [1, 2] (aCons (cCall 1 m_numbers_in (aCons (cSl (cVar 0) (oSome (cC (.int 1))) (oSome (cC (.int 3)))) aNil)) (aCons (cLc (iSeq (cSl (cVar 0) (oSome (cC (.int 3))) oNone)) [3] (gNm 3) bYes (cCall 1 m_turn_in (aCons (cVar 3) aNil))) aNil)))
    (sRet (cIf (bOr (cB (c1 (vIsN false) (cVar 1))) (cB (c2 (vIn false) (cC .non) (cVar 2)))) (cC .non) (c2 vAdd (cVar 1) (cTup (aCons (cBlt (f1 vTup) (aCons (cVar 2) aNil)) aNil)))))))
noncomputable def m_lights_line : FN := fnM .keep 4 b_lights_line
/- lines_in(text): text 0, line 1 -/
noncomputable def b_lines_in : SM := (sSeq (sIf (bOr (bNot (cTruth (c1 (vIsi "str") (cVar 0)))) (cB (c2 vNe (cSl (cVar 0) (oSome (c1 vNeg (cC (.int 1)))) oNone) (cC (.str "\n"))))) sStuck sPass)
    (sRet (cLc (iSeq (cMt "str" mSplit (cSl (cVar 0) oNone (oSome (c1 vNeg (cC (.int 1))))) (aCons (cC (.str "\n")) aNil))) [1] (gNm 1) bYes (cMt "str" mSplit (cVar 1) (aCons (cC (.str " ")) aNil)))))
noncomputable def m_lines_in : FN := fnM .keep 2 b_lines_in
/- town_line(words, number, is_lit): words 0, number 1, is_lit 2 -/
noncomputable def b_town_line : SM := (sSeq (sIf (cB (c2 vEq (cVar 1) (cC (.int 1)))) (sRet (cIf (cB (c2 vEq (c2 vIx (cVar 0) (cC (.int 0))) (cC (.str "town")))) (cCall 2 m_numbers_line (aCons (cVar 0) (aCons (cC (.int 2)) aNil))) (cC .non))) sPass)
    (sSeq (sIf (bAnd (cB (c2 vEq (c2 vIx (cVar 0) (cC (.int 0))) (cC (.str "road")))) (bNot (cTruth (cVar 2)))) (sRet (cCall 2 m_numbers_line (aCons (cVar 0) (aCons (cC (.int 3)) aNil)))) sPass)
    (sRet (cIf (cB (c2 vEq (c2 vIx (cVar 0) (cC (.int 0))) (cC (.str "lights")))) (cCall 1 m_lights_line (aCons (cVar 0) aNil)) (cC .non)))))
noncomputable def m_town_line : FN := fnM .keep 3 b_town_line
/- made_of(head, roads, lights): head 0, roads 1, lights 2, by 3, crossing 4, shift 5, rows 6, crossings 7 -/
noncomputable def b_made_of : SM := (sSeq (sAsg (cDc (iSeq (cVar 2)) [4, 5, 6] (gTp 3 (gsCons (gNm 4) (gsCons (gNm 5) (gsCons (gNm 6) gsNil)))) bYes (cVar 4) (cTup (aCons (cVar 5) (aCons (cVar 6) aNil)))) (gNm 3))
    (sSeq (sAsg (cBlt (f2 vMin2) (aCons (c2 vIx (cVar 0) (cC (.int 0))) (aCons (cC (.int 6)) aNil))) (gNm 7))
    (sRet (c2 vAdd (cVar 0) (cTup (aCons (cBlt (f1 vTup) (aCons (cVar 1) aNil)) (aCons (cBlt (f1 vTup) (aCons (cLc (iRange (cVar 7)) [4] (gNm 4) bYes (cDGet (cVar 3) (cVar 4))) aNil)) aNil)))))))
noncomputable def m_made_of : FN := fnM .val 8 b_made_of
/- read_town(text): text 0, roads 1, lights 2, head 3, number 4, words 5, found 6, town 7 -/
noncomputable def b_read_town : SM := (sSeq (sPar [1, 2, 3] (aCons (cNewL aNil) (aCons (cNewL aNil) (aCons (cTup aNil) aNil))))
    (sSeq (sFor (iEnum 1 (cCall 1 m_lines_in (aCons (cVar 0) aNil))) (gTp 2 (gsCons (gNm 4) (gsCons (gNm 5) gsNil))) (sSeq (sAsg (cCall 3 m_town_line (aCons (cVar 5) (aCons (cVar 4) (aCons (c2 vNe (cVar 2) (cLst aNil)) aNil)))) (gNm 6))
    (sSeq (sIf (cB (c1 (vIsN false) (cVar 6))) sStuck sPass)
    (sIf (cB (c2 vEq (cVar 4) (cC (.int 1)))) (sAsg (cVar 6) (gNm 3)) (sIf (cB (c2 vEq (c2 vIx (cVar 5) (cC (.int 0))) (cC (.str "road")))) (sDrop (cMt "list" mAppend (cVar 1) (aCons (cVar 6) aNil))) (sDrop (cMt "list" mAppend (cVar 2) (aCons (cVar 6) aNil))))))))
    (sSeq (sAsg (cCall 3 m_made_of (aCons (cVar 3) (aCons (cVar 1) (aCons (cVar 2) aNil)))) (gNm 7))
    (sSeq (sIf (bOr (bNot (cTruth (cCall 1 m_is_town (aCons (cVar 7) aNil)))) (cB (c2 vNe (cCall 1 m_town_by (aCons (cVar 7) aNil)) (cVar 0)))) sStuck sPass)
    (sRet (cVar 7))))))
noncomputable def m_read_town : FN := fnM .val 8 b_read_town
/- _law_cell_at(_law_script, _law_k): _law_script 0, _law_k 1 -/
noncomputable def b_l_cell_at : SM := (sSeq (sIf (cB (c2 vLt (cVar 1) (cBlt (f1 vLen) (aCons (cVar 0) aNil)))) (sRet (c2 vIx (cVar 0) (cVar 1))) sPass)
    (sRet (cC (.int 0))))
noncomputable def m_l_cell_at : FN := fnM .keep 2 b_l_cell_at
/- _law_pen(_law_cell): _law_cell 0 -/
noncomputable def b_l_pen : SM := (sRet (cNewL (aCons (cBlt (f2 vMax2) (aCons (cC (.int 0)) (aCons (c2 vSub (cVar 0) (c2 vPow (cC (.int 10)) (cC (.int 18)))) aNil))) (aCons (c2 vMod (cVar 0) (cC (.int 1000000007))) (aCons (cC (.int 0)) aNil)))))
noncomputable def m_l_pen : FN := fnM .obj 1 b_l_pen
/- _law_draw(_law_pen_here, _law_many): _law_pen_here 0, _law_many 1, _law_digit 2, _law_stir 3 -/
noncomputable def b_l_draw : SM := (sSeq (sIf (cB (c2 vGt (c2 vIx (cVar 0) (cC (.int 0))) (cC (.int 0)))) (sSeq (sAsg (c2 vMod (c2 vIx (cVar 0) (cC (.int 0))) (cVar 1)) (gNm 2))
    (sSeq (sAsg (c2 vFdiv (c2 vIx (cVar 0) (cC (.int 0))) (cVar 1)) (gSubM sSetL (cVar 0) (cC (.int 0))))
    (sRet (cVar 2)))) sPass)
    (sSeq (sAsg (c2 vAdd (c2 vIx (cVar 0) (cC (.int 2))) (cC (.int 1))) (gSubM sSetL (cVar 0) (cC (.int 2))))
    (sSeq (sAsg (c2 vMod (c2 vMul (c2 vAdd (c2 vIx (cVar 0) (cC (.int 1))) (c2 vMul (cC (.int 17)) (c2 vIx (cVar 0) (cC (.int 2))))) (c2 vAdd (cC (.int 69621)) (c2 vMul (cC (.int 2)) (c2 vIx (cVar 0) (cC (.int 2)))))) (cC (.int 2147483647))) (gNm 3))
    (sSeq (sAsg (c2 vMod (c2 vAdd (c2 vAdd (c2 vMul (cVar 3) (cVar 3)) (c2 vMul (cC (.int 40503)) (c2 vIx (cVar 0) (cC (.int 2))))) (cC (.int 5))) (cC (.int 2147483629))) (gNm 3))
    (sRet (c2 vMod (c2 vFdiv (c2 vMod (c2 vMul (cVar 3) (cC (.int 48271))) (cC (.int 2147483647))) (cC (.int 32))) (cVar 1)))))))
noncomputable def m_l_draw : FN := fnM .keep 4 b_l_draw
/- _law_lights(_law_pen_here, _law_roads, _law_crossing, _law_circle): _law_pen_here 0, _law_roads 1, _law_crossing 2, _law_circle 3, _law_some 4, _law_rows 5, _law_left 6, _law_at 7, _law_road 8, _law_beats 9, _law_green 10 -/
noncomputable def b_l_lights : SM := (sSeq (sIf (cB (c2 vLt (cCall 2 m_l_draw (aCons (cVar 0) (aCons (cC (.int 5)) aNil))) (cC (.int 2)))) (sRet (cC .non)) sPass)
    (sSeq (sPar [4, 5, 6] (aCons (cLc (iEnum 0 (cVar 1)) [7, 8] (gTp 2 (gsCons (gNm 7) (gsCons (gNm 8) gsNil))) (cB (c2 vEq (c2 vIx (cVar 8) (cC (.int 1))) (cVar 2))) (cVar 7)) (aCons (cNewL aNil) (aCons (cVar 3) aNil))))
    (sSeq (sWhile (cB (c2 vGt (cVar 6) (cC (.int 0)))) (sSeq (sAsg (cIf (cB (c2 vLt (cBlt (f1 vLen) (aCons (cVar 5) aNil)) (cC (.int 3)))) (cBlt (f2 vMin2) (aCons (cVar 6) (aCons (c2 vAdd (cC (.int 1)) (cCall 2 m_l_draw (aCons (cVar 0) (aCons (cC (.int 5)) aNil)))) aNil))) (cVar 6)) (gNm 9))
    (sSeq (sAsg (cBlt (f1 vTup) (aCons (cLc (iSeq (cVar 4)) [8] (gNm 8) (cB (c2 vGt (cCall 2 m_l_draw (aCons (cVar 0) (aCons (cC (.int 4)) aNil))) (cC (.int 1)))) (cVar 8)) aNil)) (gNm 10))
    (sSeq (sDrop (cMt "list" mAppend (cVar 5) (aCons (cTup (aCons (cVar 9) (aCons (cVar 10) aNil))) aNil)))
    (sAsg (c2 vSub (cVar 6) (cVar 9)) (gNm 6))))))
    (sRet (cTup (aCons (cCall 2 m_l_draw (aCons (cVar 0) (aCons (cVar 3) aNil))) (aCons (cBlt (f1 vTup) (aCons (cVar 5) aNil)) aNil)))))))
noncomputable def m_l_lights : FN := fnM .val 11 b_l_lights
/- _law_town(_law_pen_here): _law_pen_here 0, _law_many 1, _law_circle 2, _law_roads 3, _law_at 4, _law_turn 5, _law_left 6, _law_mixed 7, _law_lights_here 8 -/
noncomputable def b_l_town : SM := (sSeq (sAsg (cTup (aCons (c2 vAdd (cC (.int 1)) (cCall 2 m_l_draw (aCons (cVar 0) (aCons (cC (.int 4)) aNil)))) (aCons (c2 vIx (cLst (aCons (cC (.int 1)) (aCons (cC (.int 2)) (aCons (cC (.int 3)) (aCons (cC (.int 4)) (aCons (cC (.int 6)) (aCons (cC (.int 12)) aNil))))))) (cCall 2 m_l_draw (aCons (cVar 0) (aCons (cC (.int 6)) aNil)))) aNil))) (gTp 2 (gsCons (gNm 1) (gsCons (gNm 2) gsNil))))
    (sSeq (sAsg (cNewLc (iRange (cVar 1)) [4] (gNm 4) bYes (cTup (aCons (cVar 4) (aCons (c2 vMod (c2 vAdd (cVar 4) (cC (.int 1))) (cVar 1)) (aCons (c2 vAdd (cC (.int 1)) (cCall 2 m_l_draw (aCons (cVar 0) (aCons (cC (.int 4)) aNil)))) aNil))))) (gNm 3))
    (sSeq (sFor (iRange (cCall 2 m_l_draw (aCons (cVar 0) (aCons (cC (.int 6)) aNil)))) (gNm 5) (sDrop (cMt "list" mAppend (cVar 3) (aCons (cTup (aCons (cCall 2 m_l_draw (aCons (cVar 0) (aCons (cVar 1) aNil))) (aCons (cCall 2 m_l_draw (aCons (cVar 0) (aCons (cVar 1) aNil))) (aCons (c2 vAdd (cC (.int 1)) (cCall 2 m_l_draw (aCons (cVar 0) (aCons (cC (.int 5)) aNil)))) aNil)))) aNil))))
    (sSeq (sAsg (cTup (aCons (cBlt (f1 vNewList) (aCons (cVar 3) aNil)) (aCons (cNewL aNil) aNil))) (gTp 2 (gsCons (gNm 6) (gsCons (gNm 7) gsNil))))
    (sSeq (sWhile (cB (c2 vNe (cVar 6) (cLst aNil))) (sDrop (cMt "list" mAppend (cVar 7) (aCons (cMt "list" mPopAt (cVar 6) (aCons (cCall 2 m_l_draw (aCons (cVar 0) (aCons (cBlt (f1 vLen) (aCons (cVar 6) aNil)) aNil))) aNil)) aNil))))
    (sSeq (sAsg (cLc (iRange (cVar 1)) [4] (gNm 4) bYes (cCall 4 m_l_lights (aCons (cVar 0) (aCons (cVar 7) (aCons (cVar 4) (aCons (cVar 2) aNil)))))) (gNm 8))
    (sRet (cTup (aCons (cVar 1) (aCons (cVar 2) (aCons (cBlt (f1 vTup) (aCons (cVar 7) aNil)) (aCons (cBlt (f1 vTup) (aCons (cVar 8) aNil)) aNil))))))))))))
noncomputable def m_l_town : FN := fnM .val 9 b_l_town
/- _law_commas(_law_numbers): _law_numbers 0, _law_number 1 -/
noncomputable def b_l_commas : SM := (sRet (cIf (cB (c2 vGt (cBlt (f1 vLen) (aCons (cVar 0) aNil)) (cC (.int 0)))) (cMt "str" mJoin (cC (.str ",")) (aCons (cLc (iSeq (cVar 0)) [1] (gNm 1) bYes (cBlt (f1 vStr) (aCons (cVar 1) aNil))) aNil)) (cC (.str "-"))))
noncomputable def m_l_commas : FN := fnM .keep 2 b_l_commas
/- _law_town_lines(_law_town_here): _law_town_here 0, _law_lines 1, _law_begin 2, _law_end 3, _law_long 4, _law_crossing 5, _law_one 6, _law_rows 7, _law_beats 8, _law_green 9 -/
noncomputable def b_l_town_lines : SM := (sSeq (sAsg (cNewL (aCons (c2 vAdd (c2 vAdd (c2 vAdd (cC (.str "town ")) (cBlt (f1 vStr) (aCons (c2 vIx (cVar 0) (cC (.int 0))) aNil))) (cC (.str " "))) (cBlt (f1 vStr) (aCons (c2 vIx (cVar 0) (cC (.int 1))) aNil))) aNil)) (gNm 1))
    (sSeq (sFor (iSeq (c2 vIx (cVar 0) (cC (.int 2)))) (gTp 3 (gsCons (gNm 2) (gsCons (gNm 3) (gsCons (gNm 4) gsNil)))) (sDrop (cMt "list" mAppend (cVar 1) (aCons (c2 vAdd (c2 vAdd (c2 vAdd (c2 vAdd (c2 vAdd (cC (.str "road ")) (cBlt (f1 vStr) (aCons (cVar 2) aNil))) (cC (.str " "))) (cBlt (f1 vStr) (aCons (cVar 3) aNil))) (cC (.str " "))) (cBlt (f1 vStr) (aCons (cVar 4) aNil))) aNil))))
    (sSeq (sFor (iEnum 0 (c2 vIx (cVar 0) (cC (.int 3)))) (gTp 2 (gsCons (gNm 5) (gsCons (gNm 6) gsNil))) (sIf (cB (c1 (vIsN true) (cVar 6))) (sSeq (sAsg (cLc (iSeq (c2 vIx (cVar 6) (cC (.int 1)))) [8, 9] (gTp 2 (gsCons (gNm 8) (gsCons (gNm 9) gsNil))) bYes (c2 vAdd (c2 vAdd (c2 vAdd (cC (.str " ")) (cBlt (f1 vStr) (aCons (cVar 8) aNil))) (cC (.str ":"))) (cCall 1 m_l_commas (aCons (cVar 9) aNil)))) (gNm 7))
    (sDrop (cMt "list" mAppend (cVar 1) (aCons (c2 vAdd (c2 vAdd (c2 vAdd (c2 vAdd (cC (.str "lights ")) (cBlt (f1 vStr) (aCons (cVar 5) aNil))) (cC (.str " "))) (cBlt (f1 vStr) (aCons (c2 vIx (cVar 6) (cC (.int 0))) aNil))) (cMt "str" mJoin (cC (.str "")) (aCons (cVar 7) aNil))) aNil)))) sPass))
    (sRet (cVar 1)))))
noncomputable def m_l_town_lines : FN := fnM .val 10 b_l_town_lines
/- law(_law_script): _law_script 0, _law_k 1, _law_pen_here 2, _law_turn 3, _law_town_here 4, _law_kept 5, _law_due 6, _law_line 7, _law_often 8 -/
noncomputable def b_law : SM := (sSeq (sFor (iRange (cBlt (f2 vMax2) (aCons (cC (.int 1)) (aCons (cBlt (f2 vMin2) (aCons (cBlt (f1 vLen) (aCons (cVar 0) aNil)) (aCons (cC (.int 4)) aNil))) aNil)))) (gNm 1) (sSeq (sAsg (cCall 1 m_l_pen (aCons (cCall 2 m_l_cell_at (aCons (cVar 0) (aCons (cVar 1) aNil))) aNil)) (gNm 2))
    (sFor (iRange (cC (.int 4))) (gNm 3) (sSeq (sAsg (cCall 1 m_l_town (aCons (cVar 2) aNil)) (gNm 4))
    (sSeq (sPar [5, 6] (aCons (cBlt (f1 vRepr) (aCons (cVar 4) aNil)) (aCons (cMt "str" mJoin (cC (.str "")) (aCons (cLc (iSeq (cCall 1 m_l_town_lines (aCons (cVar 4) aNil))) [7] (gNm 7) bYes (c2 vAdd (cVar 7) (cC (.str "\n")))) aNil)) aNil)))
    (sSeq (sFor (iRange (cC (.int 2))) (gNm 8) (sIf (bOr (cB (c2 vNe (cBlt (f1 vRepr) (aCons (cCall 1 m_town_text (aCons (cVar 4) aNil)) aNil)) (cBlt (f1 vRepr) (aCons (cVar 6) aNil)))) (cB (c2 vNe (cBlt (f1 vRepr) (aCons (cCall 1 m_read_town (aCons (cVar 6) aNil)) aNil)) (cBlt (f1 vRepr) (aCons (cVar 4) aNil))))) (sRet (cC (.bl false))) sPass))
    (sIf (cB (c2 vNe (cBlt (f1 vRepr) (aCons (cVar 4) aNil)) (cVar 5))) (sRet (cC (.bl false))) sPass)))))))
    (sRet (cC (.bl true))))
noncomputable def m_law : FN := fnM .keep 9 b_law
end LB
/- ===== PCore ===== -/
set_option Elab.async false
set_option linter.all false
set_option maxRecDepth 100000
set_option autoImplicit false
namespace LB
open PySem PySem.Spec PyProof.Rows L2
/-! # reasoning about mirrors: no program in sight -/
/-- it comes to an end as wanted -/
def Ok {α : Type} (P : α → Sto → Prop) : Res α → Prop
  | .ok a st => P a st
  | _ => False
section
variable {α β : Type} {P : α → Sto → Prop} {Q : β → Sto → Prop}
@[simp] theorem ok_ok (a : α) (st : Sto) : Ok P (.ok a st) = P a st := rfl
@[simp] theorem ok_ex (x : Ex) (st : Sto) : Ok P (.ex x st) = False := rfl
@[simp] theorem ok_stuck : Ok P .stuck = False := rfl
@[simp] theorem ok_bind (r : Res α) (f : α → Sto → Res β) : Ok Q (r.bind f) = Ok (fun a st => Ok Q (f a st)) r := by cases r <;> rfl
@[simp] theorem ok_noEx (r : Res α) : Ok P (noEx r) = Ok P r := by cases r <;> rfl
theorem Ok.mono {P' : α → Sto → Prop} {r : Res α} (h : Ok P r) (f : ∀ a st, P a st → P' a st) : Ok P' r := by
  cases r with
  | ok a st => exact f a st h
  | ex => exact h
  | stuck => exact h
theorem Ok.ex {r : Res α} (h : Ok P r) : ∃ a st, r = .ok a st ∧ P a st := by
  cases r with
  | ok a st => exact ⟨a, st, rfl, h⟩
  | ex => exact h.elim
  | stuck => exact h.elim
theorem ok_of {r : Res α} {a : α} {st : Sto} (e : r = .ok a st) (h : P a st) : Ok P r := by rw [e]; exact h
end
@[simp] theorem ok_ite {α : Type} {P : α → Sto → Prop} {c : Prop} [Decidable c] (a b : Res α) : Ok P (if c then a else b) = (if c then Ok P a else Ok P b) := by split <;> rfl
/-! ## the combinators, at a place -/
section
variable (env : Ev) (st : Sto)
@[simp] theorem x_cVar (i : Nat) : cVar i env st = (match env[i]? with | some (some d) => .ok d st | _ => .stuck) := rfl
@[simp] theorem x_cC (d : D) : cC d env st = .ok d st := rfl
@[simp] theorem x_c1 (f : VF1) (a : EM) : c1 f a env st = (a env st).bind fun x st1 => f x st1 := rfl
@[simp] theorem x_c2 (f : VF2) (a b : EM) : c2 f a b env st = (a env st).bind fun x st1 => (b env st1).bind fun y st2 => f x y st2 := rfl
@[simp] theorem x_chain (f g : VF2) (a b c : EM) : cChain f g a b c env st = (a env st).bind fun x st1 => (b env st1).bind fun y st2 => (f x y st2).bind fun z st3 => match z with
  | .bl true => (c env st3).bind fun w st4 => g y w st4
  | .bl false => .ok (.bl false) st3
  | _ => .stuck := rfl
@[simp] theorem x_aNil : aNil env st = .ok [] st := rfl
@[simp] theorem x_aCons (a : EM) (b : AM) : aCons a b env st = (a env st).bind fun x st1 => (b env st1).bind fun xs st2 => .ok (x :: xs) st2 := rfl
@[simp] theorem x_cTup (a : AM) : cTup a env st = (a env st).bind fun xs st1 => if xs.length ≤ 1000 then .ok (.tup xs) st1 else .stuck := rfl
@[simp] theorem x_cLst (a : AM) : cLst a env st = (a env st).bind fun xs st1 => if xs.length ≤ 1000 then .ok (.lst xs) st1 else .stuck := rfl
@[simp] theorem x_cNewL (a : AM) : cNewL a env st = (a env st).bind fun xs st1 => if xs.length ≤ 1000 then .ok (.ref st1.length) (st1 ++ [.lst xs]) else .stuck := rfl
@[simp] theorem x_cTruth (m : EM) : cTruth m env st = (m env st).bind fun d st1 => match truthD st1 d with
  | some b => .ok b st1
  | none => .stuck := rfl
@[simp] theorem x_cB (m : EM) : cB m env st = (m env st).bind fun d st1 => match d with
  | .bl b => .ok b st1
  | _ => .stuck := rfl
@[simp] theorem x_bAnd (a b : BM) : bAnd a b env st = (a env st).bind fun x st1 => if x then b env st1 else .ok false st1 := rfl
@[simp] theorem x_bOr (a b : BM) : bOr a b env st = (a env st).bind fun x st1 => if x then .ok true st1 else b env st1 := rfl
@[simp] theorem x_bNot (a : BM) : bNot a env st = (a env st).bind fun x st1 => .ok (!x) st1 := rfl
@[simp] theorem x_bYes : bYes env st = .ok true st := rfl
@[simp] theorem x_cAnd (a b : EM) : cAnd a b env st = (a env st).bind fun x st1 => match x with
  | .bl true => b env st1
  | .bl false => .ok (.bl false) st1
  | _ => .stuck := rfl
@[simp] theorem x_cOr (a b : EM) : cOr a b env st = (a env st).bind fun x st1 => match x with
  | .bl true => .ok (.bl true) st1
  | .bl false => b env st1
  | _ => .stuck := rfl
@[simp] theorem x_cNot (a : EM) : cNot a env st = (a env st).bind fun x st1 => match x with
  | .bl b => .ok (.bl !b) st1
  | _ => .stuck := rfl
@[simp] theorem x_cOrT (a b : EM) : cOrT a b env st = (a env st).bind fun x st1 => match truthD st1 x with
  | some true => .ok x st1
  | some false => b env st1
  | none => .stuck := rfl
@[simp] theorem x_cIf (c : BM) (a b : EM) : cIf c a b env st = (c env st).bind fun x st1 => if x then a env st1 else b env st1 := rfl
@[simp] theorem x_cCall (n : Nat) (F : FN) (m : AM) : cCall n F m env st = (m env st).bind fun ds st1 => if ds.length = n then F ds st1 else .stuck := rfl
@[simp] theorem x_cBlt (f : VFs) (m : AM) : cBlt f m env st = (m env st).bind fun ds st1 => f ds st1 := rfl
@[simp] theorem x_f1 (f : VF1) (d : D) : f1 f [d] st = f d st := rfl
@[simp] theorem x_f2 (f : VF2) (d e : D) : f2 f [d, e] st = f d e st := rfl
@[simp] theorem x_cMt (T : String) (f : VM) (o : EM) (m : AM) : cMt T f o m env st = (o env st).bind fun d st1 => if isT T st1 d = true then (m env st1).bind fun ds st2 => f d ds st2 else .stuck := rfl
@[simp] theorem x_cMt0 (T : String) (f : VM) (o : EM) : cMt0 T f o env st = (o env st).bind fun d st1 => if isT T st1 d = true then f d [] st1 else .stuck := rfl
@[simp] theorem x_oNone : oNone env st = .ok none st := rfl
@[simp] theorem x_oSome (m : EM) : oSome m env st = (m env st).bind fun d st1 => match d with
  | .int i => .ok (some i) st1
  | _ => .stuck := rfl
@[simp] theorem x_cSl (m : EM) (lo hi : OM) : cSl m lo hi env st = (m env st).bind fun d st1 => (lo env st1).bind fun l st2 => (hi env st2).bind fun h st3 => vSl d l h st3 := rfl
@[simp] theorem x_join0 (acc : Str) : cJoin [] acc env st = .ok (.str acc) st := rfl
@[simp] theorem x_join1 (m : EM) (ms : List EM) (acc : Str) : cJoin (m :: ms) acc env st = (m env st).bind fun d st1 => match d with
    | .str y => if (acc ++ y).length ≤ sizeLine then cJoin ms (acc ++ y) env st1 else .stuck
    | _ => .stuck := rfl
@[simp] theorem x_sPass : sPass env st = .ok (.nx env) st := rfl
@[simp] theorem x_sBreak : sBreak env st = .ok (.bk env) st := rfl
@[simp] theorem x_sCont : sCont env st = .ok (.ct env) st := rfl
@[simp] theorem x_sStuck : sStuck env st = .stuck := rfl
@[simp] theorem x_sDrop (m : EM) : sDrop m env st = (m env st).bind fun _ st1 => .ok (.nx env) st1 := rfl
@[simp] theorem x_sRet (m : EM) : sRet m env st = (m env st).bind fun d st1 => .ok (.rt d) st1 := rfl
@[simp] theorem x_sRetN : sRetN env st = .ok (.rt .non) st := rfl
@[simp] theorem x_sIf (c : BM) (a b : SM) : sIf c a b env st = (c env st).bind fun x st1 => if x then a env st1 else b env st1 := rfl
@[simp] theorem x_sSeq (a b : SM) : sSeq a b env st = (a env st).bind fun o st1 => match o with
  | .nx env1 => b env1 st1
  | o => .ok o st1 := rfl
@[simp] theorem x_sAsg (m : EM) (g : GM) : sAsg m g env st = (m env st).bind fun d st1 => (g d env st1).bind fun env2 st2 => .ok (.nx env2) st2 := rfl
@[simp] theorem x_sPar (is : List Nat) (m : AM) : sPar is m env st = (m env st).bind fun ds st1 => if ds.length = is.length then .ok (.nx ((is.zip ds).foldl (fun e p => e.set p.1 (some p.2)) env)) st1 else .stuck := rfl
@[simp] theorem x_gNm (i : Nat) (d : D) : gNm i d env st = .ok (env.set i (some d)) st := rfl
@[simp] theorem x_gsNil : gsNil [] env st = .ok env st := rfl
@[simp] theorem x_gsCons (g : GM) (gs : GMs) (d : D) (r : List D) : gsCons g gs (d :: r) env st = (g d env st).bind fun env1 st1 => gs r env1 st1 := rfl
@[simp] theorem x_gTp (n : Nat) (gs : GMs) (ds : List D) : gTp n gs (.tup ds) env st = if ds.length = n then gs ds env st else .stuck := rfl
@[simp] theorem x_gSubM (f : VS) (mo mi : EM) (y : D) : gSubM f mo mi y env st = (mo env st).bind fun d st1 => (mi env st1).bind fun e st2 => (f d e y st2).bind fun _ st3 => .ok env st3 := rfl
@[simp] theorem x_iRange (m : EM) : iRange m env st = (m env st).bind fun d st1 => match d with
  | .int n => if -(2 ^ 62) ≤ n ∧ n < 2 ^ 62 then .ok ⟨(List.range n.toNat).map fun i : Nat => D.int (i : Int), []⟩ st1 else .stuck
  | _ => .stuck := rfl
@[simp] theorem x_iEnum (k : Int) (m : EM) : iEnum k m env st = (m env st).bind fun d st1 => match enIts k st1 d with
  | some t => .ok t st1
  | none => .stuck := rfl
@[simp] theorem x_iZip (m n : EM) : iZip m n env st = (m env st).bind fun d st1 => (n env st1).bind fun e st2 => match zipIts d e with
  | some t => .ok t st2
  | none => .stuck := rfl
@[simp] theorem x_iSeq (m : EM) : iSeq m env st = (m env st).bind fun d st1 => match d with
  | .tup ds => .ok ⟨ds, []⟩ st1
  | .lst ds => .ok ⟨ds, []⟩ st1
  | .str x => .ok ⟨x.cps.toList.map fun c => D.str ⟨#[c]⟩, []⟩ st1
  | .ref n => match st1[n]? with
    | some (.lst ds) => .ok ⟨ds, [(n, ds)]⟩ st1
    | _ => .stuck
  | _ => .stuck := rfl
@[simp] theorem x_aLc (mi : IM) (vs : List Nat) (g : GM) (c : BM) (e : EM) : aLc mi vs g c e env st = (mi env st).bind fun t st1 => if t.xs.length ≤ sizeLine then compM t g c e t.xs (wipeE env vs) st1 else .stuck := rfl
@[simp] theorem x_cLc (mi : IM) (vs : List Nat) (g : GM) (c : BM) (e : EM) : cLc mi vs g c e env st = (aLc mi vs g c e env st).bind fun ys st1 => .ok (.lst ys) st1 := rfl
@[simp] theorem x_cNewLc (mi : IM) (vs : List Nat) (g : GM) (c : BM) (e : EM) : cNewLc mi vs g c e env st = (aLc mi vs g c e env st).bind fun ys st1 => .ok (.ref st1.length) (st1 ++ [.lst ys]) := rfl
@[simp] theorem x_sFor (m : IM) (g : GM) (b : SM) : sFor m g b env st = (m env st).bind fun t st1 => forM t g b t.xs env st1 := rfl
@[simp] theorem x_fnM (gc : Gc) (N : Nat) (m : SM) (ds : List D) : fnM gc N m ds st = (m (envOf N ds) st).bind fun o st' => match o with
  | .nx _ => fin gc st .non st'
  | .rt d => fin gc st d st'
  | _ => .stuck := rfl
@[simp] theorem x_fin_keep (d : D) (st' : Sto) : fin .keep st d st' = .ok d st' := by unfold fin; split <;> rfl
theorem x_fin_same (gc : Gc) (d : D) (st' : Sto) (h : st'.length ≤ st.length) : fin gc st d st' = .ok d st' := by unfold fin; rw [if_pos h]
@[simp] theorem x_fin_id (gc : Gc) (d : D) : fin gc st d st = .ok d st := x_fin_same st gc d st (Nat.le_refl _)
end
/-! ## operations by values -/
section
variable (st : Sto)
@[simp] theorem x_sub (i j : Int) : vSub (.int i) (.int j) st = .ok (.int (i - j)) st := rfl
@[simp] theorem x_add (i j : Int) : vAdd (.int i) (.int j) st = .ok (.int (i + j)) st := rfl
@[simp] theorem x_adds (x y : Str) : vAdd (.str x) (.str y) st = if x.length + y.length ≤ sizeLine then .ok (.str (x ++ y)) st else .stuck := rfl
@[simp] theorem x_addt (xs ys : List D) : vAdd (.tup xs) (.tup ys) st = if xs.length + ys.length ≤ sizeLine then .ok (.tup (xs ++ ys)) st else .stuck := rfl
@[simp] theorem x_addl (xs ys : List D) : vAdd (.lst xs) (.lst ys) st = if xs.length + ys.length ≤ sizeLine then .ok (.lst (xs ++ ys)) st else .stuck := rfl
@[simp] theorem x_mod (i j : Int) : vMod (.int i) (.int j) st = if 0 < j then .ok (.int (i % j)) st else .stuck := rfl
@[simp] theorem x_fdiv (i j : Int) : vFdiv (.int i) (.int j) st = if 0 < j ∧ j < 1073741824 then .ok (.int (i / j)) st else .stuck := rfl
@[simp] theorem x_mul (i j : Int) : vMul (.int i) (.int j) st = if CMul i j then .ok (.int (i * j)) st else .stuck := rfl
@[simp] theorem x_pow (i j : Int) : vPow (.int i) (.int j) st = if CPow i j then .ok (.int (i ^ j.toNat)) st else .stuck := rfl
@[simp] theorem x_neg (i : Int) : vNeg (.int i) st = .ok (.int (-i)) st := rfl
@[simp] theorem x_icmp (p : Int → Int → Bool) (i j : Int) : vICmp p (.int i) (.int j) st = .ok (.bl (p i j)) st := rfl
@[simp] theorem x_isN (neg : Bool) (d : D) : vIsN neg d st = (match d with
  | .non => .ok (.bl !neg) st
  | _ => .ok (.bl neg) st) := rfl
@[simp] theorem x_max (i j : Int) : vMax2 (.int i) (.int j) st = .ok (.int (if j > i then j else i)) st := rfl
@[simp] theorem x_min (i j : Int) : vMin2 (.int i) (.int j) st = .ok (.int (if j < i then j else i)) st := rfl
theorem eqD_int (i j : Int) : eqD st (.int i) (.int j) = some (decide (i = j)) := by
  have h : scal (V.int i) (V.int j) = true := rfl
  simp [eqD, scalV, h]
theorem eqD_str (i j : Str) : eqD st (.str i) (.str j) = some (decide (i = j)) := by
  have h : scal (V.str i) (V.str j) = true := rfl
  simp [eqD, scalV, h]
@[simp] theorem x_eqi (i j : Int) : vEq (.int i) (.int j) st = .ok (.bl (decide (i = j))) st := by unfold vEq; rw [eqD_int]
@[simp] theorem x_nei (i j : Int) : vNe (.int i) (.int j) st = .ok (.bl !(decide (i = j))) st := by unfold vNe; rw [eqD_int]
@[simp] theorem x_eqs (i j : Str) : vEq (.str i) (.str j) st = .ok (.bl (decide (i = j))) st := by unfold vEq; rw [eqD_str]
@[simp] theorem x_nes (i j : Str) : vNe (.str i) (.str j) st = .ok (.bl !(decide (i = j))) st := by unfold vNe; rw [eqD_str]
@[simp] theorem x_truth_bl (b : Bool) : truthD st (.bl b) = some b := rfl
@[simp] theorem x_truth_non : truthD st .non = some false := rfl
@[simp] theorem x_truth_int (i : Int) : truthD st (.int i) = some (i != 0) := rfl
@[simp] theorem x_len_tup (ds : List D) : vLen (.tup ds) st = .ok (.int ds.length) st := rfl
@[simp] theorem x_len_lst (ds : List D) : vLen (.lst ds) st = .ok (.int ds.length) st := rfl
@[simp] theorem x_len_scr (ns : List Int) : vLen (.scr ns) st = .ok (.int ns.length) st := rfl
@[simp] theorem x_len_str (s : Str) : vLen (.str s) st = if s.length ≤ sizeLine then .ok (.int s.length) st else .stuck := rfl
@[simp] theorem x_tup_lst (ds : List D) : vTup (.lst ds) st = .ok (.tup ds) st := rfl
@[simp] theorem x_tup_tup (ds : List D) : vTup (.tup ds) st = .ok (.tup ds) st := rfl
@[simp] theorem x_list_lst (ds : List D) : vList (.lst ds) st = .ok (.lst ds) st := rfl
@[simp] theorem x_list_tup (ds : List D) : vList (.tup ds) st = .ok (.lst ds) st := rfl
@[simp] theorem x_newl_lst (ds : List D) : vNewList (.lst ds) st = .ok (.ref st.length) (st ++ [.lst ds]) := rfl
@[simp] theorem x_newl_tup (ds : List D) : vNewList (.tup ds) st = .ok (.ref st.length) (st ++ [.lst ds]) := rfl
theorem x_len_ref {n : Nat} {ds : List D} (h : st[n]? = some (.lst ds)) : vLen (.ref n) st = .ok (.int ds.length) st := by simp [vLen, h]
theorem x_tup_ref {n : Nat} {ds : List D} (h : st[n]? = some (.lst ds)) : vTup (.ref n) st = .ok (.tup ds) st := by simp [vTup, lstOf, h]
theorem x_newl_ref {n : Nat} {ds : List D} (h : st[n]? = some (.lst ds)) : vNewList (.ref n) st = .ok (.ref st.length) (st ++ [.lst ds]) := by simp [vNewList, seqOf, h]
@[simp] theorem x_ix_tup (ds : List D) (i : Int) : vIx (.tup ds) (.int i) st = (match L2.atI ds i with | some x => .ok x st | none => .stuck) := rfl
@[simp] theorem x_ix_lst (ds : List D) (i : Int) : vIx (.lst ds) (.int i) st = (match L2.atI ds i with | some x => .ok x st | none => .stuck) := rfl
@[simp] theorem x_ix_scr (ds : List Int) (i : Int) : vIx (.scr ds) (.int i) st = (match L2.atI ds i with | some x => .ok (.int x) st | none => .stuck) := rfl
@[simp] theorem x_ix_str (s : Str) (i : Int) : vIx (.str s) (.int i) st = (if s.length ≤ sizeLine then (match L2.atI s.cps.toList i with | some c => .ok (.str ⟨#[c]⟩) st | none => .stuck) else .stuck) := rfl
theorem x_ix_ref {n : Nat} {ds : List D} (i : Int) (h : st[n]? = some (.lst ds)) : vIx (.ref n) (.int i) st = (match L2.atI ds i with | some x => .ok x st | none => .stuck) := by simp only [vIx, seqOf, h] <;> (cases L2.atI ds i <;> rfl)
theorem blsOf_map (bs : List Bool) : blsOf (bs.map D.bl) = some bs := by
  induction bs with
  | nil => rfl
  | cons b t ih => simp [blsOf, ih]
theorem intsOf_map (bs : List Int) : intsOf (bs.map D.int) = some bs := by
  induction bs with
  | nil => rfl
  | cons b t ih => simp [intsOf, ih]
@[simp] theorem x_all (bs : List Bool) : vAll (.lst (bs.map D.bl)) st = .ok (.bl (bs.all id)) st := by simp [vAll, lstOf, blsOf_map]
@[simp] theorem x_any (bs : List Bool) : vAny (.lst (bs.map D.bl)) st = .ok (.bl (bs.any id)) st := by simp [vAny, lstOf, blsOf_map]
theorem x_all_map {α : Type} (f : α → Bool) (xs : List α) : vAll (.lst (xs.map fun x => D.bl (f x))) st = .ok (.bl (xs.all f)) st := by
  have := x_all st (xs.map f)
  rw [List.map_map] at this
  rw [show (D.bl ∘ f) = fun x => D.bl (f x) from rfl] at this
  rw [this, List.all_map]; rfl
end
theorem atI_nat {α : Type} (xs : List α) (i : Nat) : L2.atI xs (i : Int) = xs[i]? := by
  cases h : xs[i]? with
  | some v => exact L2.atI_nat h
  | none =>
    have hl : xs.length ≤ i := by simpa using h
    unfold L2.atI L2.ixN
    rw [if_pos (by omega), if_neg (by omega)]; rfl
theorem atI_of {α : Type} {xs : List α} {i : Int} (h : 0 ≤ i) : L2.atI xs i = xs[i.toNat]? := by
  obtain ⟨n, rfl⟩ := Int.eq_ofNat_of_zero_le h
  rw [atI_nat]; rfl
@[simp] theorem atI0 {α : Type} (x : α) (xs : List α) : L2.atI (x :: xs) 0 = some x := atI_nat (x :: xs) 0
@[simp] theorem atI1 {α : Type} (x y : α) (xs : List α) : L2.atI (x :: y :: xs) 1 = some y := atI_nat (x :: y :: xs) 1
@[simp] theorem atI2 {α : Type} (x y z : α) (xs : List α) : L2.atI (x :: y :: z :: xs) 2 = some z := atI_nat (x :: y :: z :: xs) 2
@[simp] theorem atI3 {α : Type} (x y z w : α) (xs : List α) : L2.atI (x :: y :: z :: w :: xs) 3 = some w := atI_nat (x :: y :: z :: w :: xs) 3
theorem atI_last {α : Type} (xs : List α) (x : α) : L2.atI (xs ++ [x]) (-1) = some x := by
  exact L2.atI_last xs x
/-! ## loops -/
theorem compM_ok {xs : List D} {g : GM} {c : BM} {e : EM} {env : Ev} (I : Nat → List D → Sto → Prop)
    (h : ∀ i d ys st, xs[i]? = some d → I i ys st → Ok (fun env1 st1 => Ok (fun b st2 => if b then Ok (fun y st3 => I (i + 1) (ys ++ [y]) st3) (e env1 st2) else I (i + 1) ys st2) (c env1 st1)) (g d env st)) {st : Sto} (h0 : I 0 [] st) :
    Ok (fun ys st' => I xs.length ys st') (compM ⟨xs, []⟩ g c e xs env st) := by
  have key : ∀ (ds : List D) (i : Nat) (acc : List D) (st : Sto), xs.drop i = ds → I i acc st → i ≤ xs.length → Ok (fun ys st' => I xs.length (acc ++ ys) st') (compM ⟨xs, []⟩ g c e ds env st) := by
    intro ds
    induction ds with
    | nil =>
      intro i acc st hd hI hl
      have : i = xs.length := by
        have := congrArg List.length hd
        simp at this; omega
      subst this
      rw [compM, if_pos gd_nil]
      simpa using hI
    | cons d ds ih =>
      intro i acc st hd hI hl
      have hlt : i < xs.length := by
        have := congrArg List.length hd
        simp at this; omega
      have hx : xs[i]? = some d := by
        have := congrArg (fun l => l[0]?) hd
        simpa using this
      have hd2 : xs.drop (i + 1) = ds := by
        have := congrArg List.tail hd
        simpa using this
      rw [compM, if_pos gd_nil]
      simp only [ok_bind, ok_noEx]
      refine (h i d acc st hx hI).mono fun env1 st1 h1 => h1.mono fun b st2 h2 => ?_
      cases b with
      | false => simpa using ih (i + 1) acc st2 hd2 (by simpa using h2) (by omega)
      | true =>
        rw [if_pos rfl] at h2 ⊢
        simp only [ok_bind, ok_noEx]
        refine h2.mono fun y st3 h3 => ?_
        refine (ih (i + 1) (acc ++ [y]) st3 hd2 h3 (by omega)).mono fun ys st4 h4 => ?_
        simpa using h4
  exact (key xs 0 [] st rfl h0 (Nat.zero_le _)).mono fun ys st' h => by simpa using h
theorem compM_pure {α : Type} {xs : List α} {k : α → D} {g : GM} {c : BM} {e : EM} {env : Ev} {st : Sto} (p : α → Bool) (f : α → D)
    (h : ∀ x ∈ xs, Ok (fun env1 st1 => st1 = st ∧ c env1 st = .ok (p x) st ∧ (p x = true → e env1 st = .ok (f x) st)) (g (k x) env st)) :
    compM ⟨xs.map k, []⟩ g c e (xs.map k) env st = .ok ((xs.filter p).map f) st := by
  have key : ∀ (t : Its) (_ : t.gd = []) (ys : List α), (∀ x ∈ ys, x ∈ xs) → compM t g c e (ys.map k) env st = .ok ((ys.filter p).map f) st := by
    intro t ht ys
    have gd : t.Gd st := fun q hq => by rw [ht] at hq; cases hq
    induction ys with
    | nil => intro _; rw [List.map_nil, compM, if_pos gd]; rfl
    | cons y ys ih =>
      intro hm
      rw [List.map_cons, compM, if_pos gd]
      obtain ⟨env1, st1, e1, rfl, h2, h3⟩ := (h y (hm y List.mem_cons_self)).ex
      rw [e1, noEx_ok, bind_ok, h2, noEx_ok, bind_ok]
      have hi := ih fun x hx => hm x (List.mem_cons_of_mem _ hx)
      cases hp : p y with
      | false => rw [if_neg Bool.false_ne_true, hi, List.filter_cons_of_neg (by rw [hp]; exact Bool.false_ne_true)]
      | true => rw [if_pos rfl, h3 hp, noEx_ok, bind_ok, hi, bind_ok, List.filter_cons_of_pos hp]; rfl
  exact key _ rfl xs fun _ h => h
theorem compM_pureG {α : Type} {t : Its} {xs : List α} {k : α → D} {g : GM} {c : BM} {e : EM} {env : Ev} {st : Sto} (gd : t.Gd st) (p : α → Bool) (f : α → D)
    (h : ∀ x ∈ xs, Ok (fun env1 st1 => st1 = st ∧ c env1 st = .ok (p x) st ∧ (p x = true → e env1 st = .ok (f x) st)) (g (k x) env st)) :
    compM t g c e (xs.map k) env st = .ok ((xs.filter p).map f) st := by
  have key : ∀ (ys : List α), (∀ x ∈ ys, x ∈ xs) → compM t g c e (ys.map k) env st = .ok ((ys.filter p).map f) st := by
    intro ys
    induction ys with
    | nil => intro _; rw [List.map_nil, compM, if_pos gd]; rfl
    | cons y ys ih =>
      intro hm
      rw [List.map_cons, compM, if_pos gd]
      obtain ⟨env1, st1, e1, rfl, h2, h3⟩ := (h y (hm y List.mem_cons_self)).ex
      rw [e1, noEx_ok, bind_ok, h2, noEx_ok, bind_ok]
      have hi := ih fun x hx => hm x (List.mem_cons_of_mem _ hx)
      cases hp : p y with
      | false => rw [if_neg Bool.false_ne_true, hi, List.filter_cons_of_neg (by rw [hp]; exact Bool.false_ne_true)]
      | true => rw [if_pos rfl, h3 hp, noEx_ok, bind_ok, hi, bind_ok, List.filter_cons_of_pos hp]; rfl
  exact key xs fun _ h => h
theorem compM_map {α : Type} {xs : List α} {k : α → D} {g : GM} {c : BM} {e : EM} {env : Ev} {st : Sto} (f : α → D)
    (h : ∀ x ∈ xs, Ok (fun env1 st1 => st1 = st ∧ c env1 st = .ok true st ∧ e env1 st = .ok (f x) st) (g (k x) env st)) :
    compM ⟨xs.map k, []⟩ g c e (xs.map k) env st = .ok (xs.map f) st := by
  have q := compM_pure (xs := xs) (k := k) (g := g) (c := c) (e := e) (env := env) (st := st) (fun _ => true) f fun x hx => (h x hx).mono fun env1 st1 ⟨h1, h2, h3⟩ => ⟨h1, h2, fun _ => h3⟩
  rw [q, List.filter_eq_self.mpr fun _ _ => rfl]
theorem forM_ok {t : Its} {xs : List D} {g : GM} {b : SM} (I : Nat → Ev → Sto → Prop) (B : Ev → Sto → Prop) (R : D → Sto → Prop) (hx : t.xs = xs) (hg : ∀ i env st, I i env st → t.Gd st)
    (h : ∀ i d env st, xs[i]? = some d → I i env st → Ok (fun env1 st1 => Ok (fun o st2 => match o with
      | .nx e => I (i + 1) e st2
      | .ct e => I (i + 1) e st2
      | .bk e => B e st2
      | .rt d => R d st2) (b env1 st1)) (g d env st)) {env : Ev} {st : Sto} (h0 : I 0 env st) :
    Ok (fun o st' => match o with
      | .nx e => I xs.length e st' ∨ B e st'
      | .rt d => R d st'
      | _ => False) (forM t g b xs env st) := by
  subst hx
  have key : ∀ (ds : List D) (i : Nat) (env : Ev) (st : Sto), t.xs.drop i = ds → I i env st → i ≤ t.xs.length → Ok (fun o st' => match o with
      | .nx e => I t.xs.length e st' ∨ B e st'
      | .rt d => R d st'
      | _ => False) (forM t g b ds env st) := by
    intro ds
    induction ds with
    | nil =>
      intro i env st hd hI hl
      have : i = t.xs.length := by
        have := congrArg List.length hd
        simp at this; omega
      subst this
      rw [forM, if_pos (hg _ _ _ hI)]
      exact .inl hI
    | cons d ds ih =>
      intro i env st hd hI hl
      have hlt : i < t.xs.length := by
        have := congrArg List.length hd
        simp at this; omega
      have hx : t.xs[i]? = some d := by
        have := congrArg (fun l => l[0]?) hd
        simpa using this
      have hd2 : t.xs.drop (i + 1) = ds := by
        have := congrArg List.tail hd
        simpa using this
      rw [forM, if_pos (hg _ _ _ hI)]
      simp only [ok_bind]
      refine (h i d env st hx hI).mono fun env1 st1 h1 => h1.mono fun o st2 h2 => ?_
      cases o with
      | nx e => exact ih (i + 1) e st2 hd2 h2 (by omega)
      | ct e => exact ih (i + 1) e st2 hd2 h2 (by omega)
      | bk e => exact .inr h2
      | rt d => exact h2
  exact key t.xs 0 env st rfl h0 (Nat.zero_le _)
theorem while_ok {c : BM} {b : SM} (I : Nat → Ev → Sto → Prop) (B : Ev → Sto → Prop) (R : D → Sto → Prop)
    (h : ∀ m env st, I m env st → Ok (fun t st1 => if t then Ok (fun o st2 => match o with
      | .nx e => ∃ m', m' < m ∧ I m' e st2
      | .ct e => ∃ m', m' < m ∧ I m' e st2
      | .bk e => B e st2
      | .rt d => R d st2) (b env st1) else B env st1) (c env st)) {m : Nat} {env : Ev} {st : Sto} (h0 : I m env st) :
    Ok (fun o st' => match o with
      | .nx e => B e st'
      | .rt d => R d st'
      | _ => False) (sWhile c b env st) := by
  have key : ∀ (n m : Nat) (env : Ev) (st : Sto), m < n → I m env st → Ok (fun o st' => match o with
      | .nx e => B e st'
      | .rt d => R d st'
      | _ => False) (whileN c b n env st) := by
    intro n
    induction n with
    | zero => intro m env st hm; omega
    | succ n ih =>
      intro m env st hm hI
      rw [whileN]
      simp only [ok_bind]
      refine (h m env st hI).mono fun t st1 h1 => ?_
      cases t with
      | false => rw [if_neg Bool.false_ne_true] at h1 ⊢; exact h1
      | true =>
        rw [if_pos rfl] at h1 ⊢
        simp only [ok_bind]
        refine h1.mono fun o st2 h2 => ?_
        cases o with
        | nx e => obtain ⟨m', q1, q2⟩ := h2; exact ih m' e st2 (by omega) q2
        | ct e => obtain ⟨m', q1, q2⟩ := h2; exact ih m' e st2 (by omega) q2
        | bk e => exact h2
        | rt d => exact h2
  have q := key (m + 1) m env st (Nat.lt_succ_self _) h0
  have hn : whileN c b (m + 1) env st ≠ .stuck := fun e => by rw [e] at q; exact q
  rw [sWhile_eq hn]
  exact q
end LB
/- ===== PDraw ===== -/
set_option Elab.async false
set_option linter.all false
set_option maxRecDepth 100000
set_option autoImplicit false
namespace LB
open PySem PySem.Spec PyProof.Rows L2
/-! # the pen -/
/-- a pen of at most n drawn stirs -/
def PenOk (n : Nat) (o : O) : Prop := ∃ a b c : Int, o = .lst [.int a, .int b, .int c] ∧ 0 ≤ a ∧ 0 ≤ b ∧ b < 2 ^ 30 ∧ 0 ≤ c ∧ c ≤ n
theorem PenOk.mono {n m : Nat} {o : O} (h : PenOk n o) (hm : n ≤ m) : PenOk m o := by
  obtain ⟨a, b, c, h1, h2, h3, h4, h5, h6⟩ := h
  exact ⟨a, b, c, h1, h2, h3, h4, h5, by omega⟩
theorem get_set {st : Sto} {p : Nat} {o : O} (h : p < st.length) : (st.set p o)[p]? = some o := List.getElem?_set_self h
theorem get_app {st L : Sto} {p : Nat} {o : O} (h : st[p]? = some o) : (st ++ L)[p]? = some o := by
  rw [List.getElem?_append_left (List.getElem?_eq_some_iff.mp h).1]; exact h
theorem lt_get {st : Sto} {p : Nat} {o : O} (h : st[p]? = some o) : p < st.length := (List.getElem?_eq_some_iff.mp h).1
theorem set_app {st L : Sto} {p : Nat} {o : O} (h : p < st.length) : (st ++ L).set p o = st.set p o ++ L := by rw [List.set_append, if_pos h]
theorem take_app {st L : Sto} {n : Nat} (h : n = st.length) : (st ++ L).take n = st := by rw [h]; simp
/-- a new thing is handed back -/
theorem fin_new (st : Sto) (o : O) (h : o.clo st.length = true) : fin .obj st (.ref st.length) (st ++ [o]) = .ok (.ref st.length) (st ++ [o]) := by
  have c : Clean st (st ++ [o]) := fun i hi => .inl (List.getElem?_append_left hi)
  unfold fin
  rw [if_neg (by simp)]
  simp only
  rw [if_pos c, if_neg (by omega), show (st ++ [o])[st.length]? = some o by simp]
  simp only
  rw [if_pos h, take_app rfl]
mutual
/-- nothing of the store in it -/
def D.nr : D → Bool
  | .tup ds => nrs ds
  | .lst ds => nrs ds
  | .ref _ => false
  | _ => true
def nrs : List D → Bool
  | [] => true
  | d :: ds => D.nr d && nrs ds
end
mutual
theorem clo_nr (n : Nat) : ∀ d : D, d.nr = true → d.clo n = true
  | .non, _ => rfl
  | .bl _, _ => rfl
  | .int _, _ => rfl
  | .str _, _ => rfl
  | .scr _, _ => rfl
  | .tup ds, h => by rw [D.nr] at h; rw [D.clo]; exact clos_nr n ds h
  | .lst ds, h => by rw [D.nr] at h; rw [D.clo]; exact clos_nr n ds h
  | .ref _, h => by rw [D.nr] at h; cases h
theorem clos_nr (n : Nat) : ∀ ds : List D, nrs ds = true → clos n ds = true
  | [], _ => rfl
  | d :: ds, h => by
    rw [nrs, Bool.and_eq_true] at h
    rw [clos, clo_nr n d h.1, clos_nr n ds h.2]; rfl
end
theorem pen_clo {n m : Nat} {o : O} (h : PenOk n o) : o.clo m = true := by
  obtain ⟨a, b, c, rfl, _⟩ := h
  rfl
theorem fin_pen {st L : Sto} {p n : Nat} {o : O} {d : D} (hp : p < st.length) (ho : PenOk n o) (hd : d.nr = true) : fin .val st d (st.set p o ++ L) = .ok d (st.set p o) := by
  have hl : (st.set p o).length = st.length := List.length_set
  by_cases hL : L = []
  · subst hL
    rw [List.append_nil]
    exact x_fin_same _ _ _ _ (by omega)
  have hlen : 0 < L.length := List.length_pos_iff.mpr hL
  have c : Clean st (st.set p o ++ L) := fun i hi => by
    rw [List.getElem?_append_left (by omega)]
    by_cases e : p = i
    · subst e
      exact .inr ⟨o, List.getElem?_set_self hi, pen_clo ho⟩
    · exact .inl (List.getElem?_set_ne e)
  have ht : (st.set p o ++ L).take st.length = st.set p o := take_app hl.symm
  unfold fin
  rw [if_neg (by rw [List.length_append]; omega)]
  simp only
  rw [if_pos c]
  cases d with
  | ref k => rw [D.nr] at hd; cases hd
  | _ => simp only [clo_nr _ _ hd, ht, if_true]
theorem cell_ok (ns : List Int) (k : Nat) (st : Sto) : ∃ z : Int, m_l_cell_at [.scr ns, .int k] st = .ok (.int z) st := by
  unfold m_l_cell_at b_l_cell_at
  by_cases h : k < ns.length
  · refine ⟨ns[k], ?_⟩
    simp [envOf, atI_nat, h]
  · refine ⟨0, ?_⟩
    simp [envOf, atI_nat, h]
theorem pen_ok (z : Int) (st : Sto) : ∃ o, m_l_pen [.int z] st = .ok (.ref st.length) (st ++ [o]) ∧ PenOk 0 o := by
  have h10 : CPow 10 18 := ⟨by decide, by decide, by decide⟩
  refine ⟨.lst [.int (if z - 10 ^ 18 > 0 then z - 10 ^ 18 else 0), .int (z % 1000000007), .int 0], ?_, _, _, _, rfl, ?_, ?_, ?_, ?_, ?_⟩
  · unfold m_l_pen b_l_pen
    have e : (10 : Int) ^ (18 : Int).toNat = 10 ^ 18 := rfl
    have f := fin_new st (.lst [.int (if z - 10 ^ 18 > 0 then z - 10 ^ 18 else 0), .int (z % 1000000007), .int 0]) rfl
    simp [envOf, h10, e] at f ⊢
    exact f
  · split <;> omega
  · omega
  · omega
  · omega
  · omega
theorem draw_ok {st : Sto} {p n : Nat} {o : O} {m : Int} (ho : st[p]? = some o) (hp : PenOk n o) (hn : n < 2 ^ 40) (hm : 0 < m) (hm2 : m < 2 ^ 30) :
    ∃ (r : Int) (o' : O), m_l_draw [.ref p, .int m] st = .ok (.int r) (st.set p o') ∧ PenOk (n + 1) o' ∧ 0 ≤ r ∧ r < m := by
  obtain ⟨a, b, c, rfl, ha, hb, hb2, hc, hc2⟩ := hp
  have hl := lt_get ho
  unfold m_l_draw b_l_draw
  have hm3 : m < 1073741824 := hm2
  by_cases h : 0 < a
  · refine ⟨a % m, .lst [.int (a / m), .int b, .int c], ?_, ⟨_, _, _, rfl, Int.ediv_nonneg ha (Int.le_of_lt hm), hb, hb2, hc, by omega⟩, Int.emod_nonneg _ (by omega), Int.emod_lt_of_pos _ hm⟩
    simp [envOf, x_ix_ref st _ ho, h, hm, hm3, sSetL, ho, ixN]
  · have q1 : CMul 17 (c + 1) := .inl ⟨by decide, by decide⟩
    have q2 : CMul 2 (c + 1) := .inl ⟨by decide, by decide⟩
    have q3 : CMul (b + 17 * (c + 1)) (69621 + 2 * (c + 1)) := .inl ⟨by omega, by omega⟩
    have q4 : CMul 40503 (c + 1) := .inl ⟨by decide, by decide⟩
    have q5 : ∀ x y : Int, CMul (x % 2147483647) y := fun x y => .inl ⟨by omega, by omega⟩
    have q6 : ∀ x : Int, CMul x 48271 := fun x => .inr ⟨by decide, by decide⟩
    have hs : (st.set p (.lst [.int a, .int b, .int (c + 1)]))[p]? = some (.lst [.int a, .int b, .int (c + 1)]) := get_set hl
    refine ⟨((((((b + 17 * (c + 1)) * (69621 + 2 * (c + 1)) % 2147483647) * ((b + 17 * (c + 1)) * (69621 + 2 * (c + 1)) % 2147483647) + 40503 * (c + 1) + 5) % 2147483629) * 48271 % 2147483647) / 32) % m, .lst [.int a, .int b, .int (c + 1)], ?_, ⟨_, _, _, rfl, ha, hb, hb2, by omega, by omega⟩, ?_, ?_⟩
    · simp [envOf, x_ix_ref st _ ho, h, hm, hm3, sSetL, ho, ixN, x_ix_ref _ _ hs, q1, q2, q3, q4, q5, q6]
    · exact Int.emod_nonneg _ (by omega)
    · exact Int.emod_lt_of_pos _ hm
end LB
/- ===== PTown ===== -/
set_option Elab.async false
set_option linter.all false
set_option maxRecDepth 100000
set_option autoImplicit false
namespace LB
open PySem PySem.Spec PyProof.Rows L2
/-! # towns: what the program asks of them -/
abbrev Road := Int × Int × Int
abbrev Row := Int × List Int
abbrev Light := Option (Int × List Row)
structure Town where
  many : Int
  circle : Int
  roads : List Road
  lights : List Light
def roadD (r : Road) : D := .tup [.int r.1, .int r.2.1, .int r.2.2]
def rowD (r : Row) : D := .tup [.int r.1, .tup (r.2.map .int)]
def lightD : Light → D
  | none => .non
  | some p => .tup [.int p.1, .tup (p.2.map rowD)]
def townD (t : Town) : D := .tup [.int t.many, .int t.circle, .tup (t.roads.map roadD), .tup (t.lights.map lightD)]
section
variable (st : Sto)
@[simp] theorem v_isInt_int (i : Int) : vIsi "int" (.int i) st = .ok (.bl true) st := rfl
@[simp] theorem v_isBool_int (i : Int) : vIsi "bool" (.int i) st = .ok (.bl false) st := rfl
@[simp] theorem v_isTup_tup (ds : List D) : vIsi "tuple" (.tup ds) st = .ok (.bl true) st := rfl
@[simp] theorem v_isTup_non : vIsi "tuple" .non st = .ok (.bl false) st := rfl
@[simp] theorem v_isTup_int (i : Int) : vIsi "tuple" (.int i) st = .ok (.bl false) st := rfl
@[simp] theorem v_isStr_str (i : Str) : vIsi "str" (.str i) st = .ok (.bl true) st := rfl
@[simp] theorem whole_int (i : Int) : m_is_whole [.int i] st = .ok (.bl true) st := by
  unfold m_is_whole b_is_whole
  simp [envOf]
@[simp] theorem among_int (i lo hi : Int) : m_is_among [.int i, .int lo, .int hi] st = .ok (.bl (decide (lo ≤ i) && decide (i ≤ hi))) st := by
  unfold m_is_among b_is_among
  simp [envOf]
  by_cases h : lo ≤ i <;> simp [h]
@[simp] theorem row_tup (ds : List D) (lo hi : Int) : m_is_row [.tup ds, .int lo, .int hi] st = .ok (.bl (decide (lo ≤ ds.length) && decide (ds.length ≤ hi))) st := by
  unfold m_is_row b_is_row
  simp [envOf]
  by_cases h : lo ≤ (ds.length : Int) <;> simp [h]
end
theorem cut_tail (xs : List D) : cutD xs (some 1) none = xs.drop 1 := by
  unfold cutD HT.sIx
  cases xs with
  | nil => simp
  | cons x t =>
    simp
theorem zipT_map {α β : Type} (xs : List α) (ys : List β) (f : α → D) (h : β → D) : zipT (xs.map f) (ys.map h) = (xs.zip ys).map fun p => .tup [f p.1, h p.2] := by
  unfold zipT
  rw [List.zip_map, List.map_map]; rfl
def risingB (g : List Int) : Bool := (g.zip (g.drop 1)).all fun p => decide (p.1 < p.2)
@[simp] theorem x_sl_tup (ds : List D) (lo hi : Option Int) (st : Sto) : vSl (.tup ds) lo hi st = .ok (.tup (cutD ds lo hi)) st := rfl
@[simp] theorem x_wipe0 (env : Ev) : wipeE env [] = env := rfl
@[simp] theorem x_wipe1 (env : Ev) (v : Nat) (vs : List Nat) : wipeE env (v :: vs) = (wipeE env vs).set v none := rfl
theorem rising_ok (g : List Int) (st : Sto) (hg : g.length ≤ 1000) : m_are_rising [.tup (g.map .int)] st = .ok (.bl (risingB g)) st := by
  unfold m_are_rising b_are_rising
  have hl : (g.zip (g.drop 1)).length ≤ sizeLine := by rw [List.length_zip]; exact le_line (by omega)
  have e : zipIts (.tup (g.map .int)) (.tup (cutD (g.map .int) (some 1) none)) = some ⟨(g.zip (g.drop 1)).map fun p => .tup [.int p.1, .int p.2], []⟩ := by
    rw [cut_tail, ← List.map_drop]
    show some (Its.mk (zipT _ _) []) = _
    rw [zipT_map]
  simp only [x_fnM, x_sRet, x_cBlt, x_aCons, x_cLc, x_aLc, x_iZip, x_cVar, x_cSl, x_oSome, x_oNone, x_cC, x_aNil, envOf, List.map_cons, List.map_nil, List.length_cons, List.length_nil, List.cons_append, List.getElem?_cons_zero, bind_ok, x_sl_tup, e, List.length_map, hl, if_true, x_wipe1, x_wipe0, List.nil_append]
  rw [compM_map (fun p => .bl (decide (p.1 < p.2)))]
  · simp [x_all_map, risingB]
  · intro p _
    simp
theorem cut_to (xs : List D) (n : Nat) : cutD xs none (some (n : Int)) = xs.take n := by
  unfold cutD HT.sIx
  simp only [List.drop_zero, Nat.sub_zero]
  rw [if_neg (by omega)]
  rw [Int.toNat_natCast]
  rcases Nat.le_total n xs.length with h | h
  · rw [Nat.min_eq_left h]
  · rw [Nat.min_eq_right h, List.take_of_length_le (Nat.le_refl _), List.take_of_length_le h]
theorem cut_two (xs : List D) : cutD xs none (some 2) = xs.take 2 := cut_to xs 2
def roadB (many : Int) (r : Road) : Bool := decide (1 ≤ r.2.2 ∧ r.2.2 ≤ 5 ∧ 0 ≤ r.1 ∧ r.1 ≤ many - 1 ∧ 0 ≤ r.2.1 ∧ r.2.1 ≤ many - 1)
theorem road_row_ok (r : Road) (many : Int) (st : Sto) : m_is_road_row [roadD r, .int many] st = .ok (.bl (roadB many r)) st := by
  obtain ⟨a, b, l⟩ := r
  unfold m_is_road_row b_is_road_row roadD
  by_cases h1 : 1 ≤ l ∧ l ≤ 5
  · simp [envOf, cut_two, h1, le_line]
    rw [show [D.int a, D.int b] = [a, b].map D.int from rfl]
    rw [compM_map (xs := [a, b]) (k := D.int) (fun x => .bl (decide (0 ≤ x) && decide (x ≤ many - 1)))]
    · simp [vAll, lstOf, blsOf, roadB, h1, and_assoc, Bool.and_assoc]
    · intro p _
      simp
  · have : ¬(1 ≤ l) ∨ (1 ≤ l ∧ ¬ l ≤ 5) := by omega
    rcases this with h | ⟨h, h'⟩
    · simp [envOf, h, roadB]
    · simp [envOf, h, h', roadB]
theorem flat_ints (L : List Int) : (L.map D.int).all flatD = true := by
  induction L with
  | nil => rfl
  | cons a t ih => simp [flatD]
theorem inV_ints (i : Int) (L : List Int) : inV (V.int i) ((L.map D.int).map toV) = decide (i ∈ L) := by
  induction L with
  | nil => rfl
  | cons a t ih =>
    have e : inV (V.int i) (((a :: t).map D.int).map toV) = (decide (i = a) || inV (V.int i) ((t.map D.int).map toV)) := by
      have q : eqV (V.int a) (V.int i) = decide (i = a) := by
        by_cases h : i = a
        · subst h; simp [eqV]
        · have : a ≠ i := fun e => h e.symm
          simp [eqV, h, this]
      simp [inV, toV, scalV, q]
    rw [e, ih]
    by_cases h : i = a <;> simp [h]
@[simp] theorem in_ints (neg : Bool) (i : Int) (L : List Int) (st : Sto) : vIn neg (.int i) (.lst (L.map .int)) st = .ok (.bl (if neg then !(decide (i ∈ L)) else decide (i ∈ L))) st := by
  have h : inD st (.int i) (.lst (L.map .int)) = some (decide (i ∈ L)) := by
    show (if _ then _ else _) = _
    rw [if_pos ⟨rfl, flat_ints L⟩]
    exact congrArg some (inV_ints i L)
  unfold vIn
  rw [h]
@[simp] theorem in_intst (neg : Bool) (i : Int) (L : List Int) (st : Sto) : vIn neg (.int i) (.tup (L.map .int)) st = .ok (.bl (if neg then !(decide (i ∈ L)) else decide (i ∈ L))) st := by
  have h : inD st (.int i) (.tup (L.map .int)) = some (decide (i ∈ L)) := by
    show (if _ then _ else _) = _
    rw [if_pos ⟨rfl, flat_ints L⟩]
    exact congrArg some (inV_ints i L)
  unfold vIn
  rw [h]
def turnB (ending : List Int) (r : Row) : Bool := decide (1 ≤ r.1 ∧ r.1 ≤ 12) && r.2.all (fun x => decide (x ∈ ending)) && risingB r.2
theorem turn_ok (r : Row) (ending : List Int) (st : Sto) (hg : r.2.length ≤ 1000) : m_is_turn [rowD r, .lst (ending.map .int)] st = .ok (.bl (turnB ending r)) st := by
  obtain ⟨b, g⟩ := r
  have hg : g.length ≤ 1000 := hg
  unfold m_is_turn b_is_turn rowD
  by_cases h1 : 1 ≤ b ∧ b ≤ 12
  · simp [envOf, h1, le_line hg]
    rw [compM_map (fun x => .bl (decide (x ∈ ending)))]
    · simp [x_all_map, rising_ok _ _ hg, turnB, h1]
      cases (g.all fun x => decide (x ∈ ending)) <;> simp
    · intro p _
      simp
  · have : ¬(1 ≤ b) ∨ (1 ≤ b ∧ ¬ b ≤ 12) := by omega
    rcases this with h | ⟨h, h'⟩
    · simp [envOf, h, turnB]
    · simp [envOf, h, h', turnB]
def lightB (circle : Int) (ending : List Int) : Light → Bool
  | none => true
  | some p => decide (0 ≤ p.1 ∧ p.1 ≤ circle - 1 ∧ 1 ≤ p.2.length ∧ p.2.length ≤ 4) && p.2.all (turnB ending) && decide ((p.2.map (·.1)).sum = circle)
theorem sumI (L : List Int) (st : Sto) : vSum (.lst (L.map .int)) st = .ok (.int L.sum) st := by
  unfold vSum
  simp only [lstOf, intsOf_map]
theorem x_sum_map {α : Type} (f : α → Int) (xs : List α) (st : Sto) : vSum (.lst (xs.map fun x => D.int (f x))) st = .ok (.int (xs.map f).sum) st := by
  have := sumI (xs.map f) st
  rw [List.map_map] at this
  exact this
theorem lights_ok (l : Light) (circle : Int) (ending : List Int) (st : Sto) (hl : ∀ p, l = some p → p.2.length ≤ 1000 ∧ ∀ r ∈ p.2, r.2.length ≤ 1000) : m_are_lights [lightD l, .int circle, .lst (ending.map .int)] st = .ok (.bl (lightB circle ending l)) st := by
  unfold m_are_lights b_are_lights
  cases l with
  | none => simp [envOf, lightD, lightB]
  | some p =>
    obtain ⟨s, rows⟩ := p
    obtain ⟨h1, h2⟩ := hl _ rfl
    have h1 : rows.length ≤ 1000 := h1
    unfold lightD
    by_cases c1 : 0 ≤ s
    · by_cases c2 : s ≤ circle - 1
      · by_cases c3 : 1 ≤ rows.length
        · by_cases c4 : rows.length ≤ 4
          · have c3' : (1 : Int) ≤ (rows.length : Int) := by omega
            have c4' : (rows.length : Int) ≤ 4 := by omega
            simp [envOf, c1, c2, c3', c4', le_line h1]
            rw [compM_map (fun x => .bl (turnB ending x))]
            · simp [x_all_map]
              by_cases c5 : rows.all (turnB ending) = true
              · have c5' := List.all_eq_true.mp c5
                simp [c5, le_line h1]
                rw [compM_map (fun x => .int x.1)]
                · simp [x_sum_map, lightB, c1, c2, c3, c4, c5]
                · intro r _
                  simp [rowD]
              · rw [Bool.not_eq_true] at c5
                simp [c5, lightB]
            · intro r hr
              simp [turn_ok r ending st (h2 r hr)]
          · have c3' : (1 : Int) ≤ (rows.length : Int) := by omega
            have c4' : ¬ (rows.length : Int) ≤ 4 := by omega
            simp [envOf, c1, c2, c3', c4', lightB, c4]
        · have c3' : ¬ (1 : Int) ≤ (rows.length : Int) := by omega
          have c3'' : ¬ 1 ≤ rows.length := c3
          simp only [lightB]
          have : rows = [] := by cases rows with | nil => rfl | cons a t => simp at c3
          subst this
          simp [envOf, c1, c2]
      · simp [envOf, c1, c2, lightB]
    · simp [envOf, c1, lightB]
def endsAt (roads : List Road) (c : Int) : List Int := (roads.zipIdx.filter fun p => decide (p.1.2.1 = c)).map fun p => (p.2 : Int)
theorem pairs_map {α : Type} (k0 : Int) (xs : List α) (k : α → D) : pairs k0 (xs.map k) = xs.zipIdx.map fun p => .tup [.int (k0 + (p.2 : Nat)), k p.1] := by
  unfold pairs
  rw [List.zipIdx_map, List.map_map]; rfl
@[simp] theorem enIts_tup (k : Int) (st : Sto) (ds : List D) : enIts k st (.tup ds) = some ⟨pairs k ds, []⟩ := rfl
@[simp] theorem enIts_lst (k : Int) (st : Sto) (ds : List D) : enIts k st (.lst ds) = some ⟨pairs k ds, []⟩ := rfl
theorem ends_ok (roads : List Road) (c : Int) (st : Sto) (hr : roads.length ≤ 1000) : m_ends_at [.tup (roads.map roadD), .int c] st = .ok (.lst ((endsAt roads c).map .int)) st := by
  unfold m_ends_at b_ends_at
  simp [envOf, pairs_map, le_line hr]
  rw [compM_pure (fun p => decide (p.1.2.1 = c)) (fun p => .int (p.2 : Nat))]
  · simp [endsAt]
  · intro p _
    simp [roadD]
def townB (t : Town) : Bool := decide (1 ≤ t.many ∧ t.many ≤ 6 ∧ 1 ≤ t.circle ∧ t.circle ≤ 12 ∧ 1 ≤ t.roads.length ∧ t.roads.length ≤ 10) && t.roads.all (roadB t.many) && decide ((t.lights.length : Int) = t.many) && t.lights.zipIdx.all fun p => lightB t.circle (endsAt t.roads (p.2 : Nat)) p.1
structure SmallTown (t : Town) : Prop where
  roads : t.roads.length ≤ 1000
  lights : t.lights.length ≤ 1000
  rows : ∀ l ∈ t.lights, ∀ p, l = some p → p.2.length ≤ 1000 ∧ ∀ r ∈ p.2, r.2.length ≤ 1000
theorem town_ok (t : Town) (st : Sto) (hs : SmallTown t) : m_is_town [townD t] st = .ok (.bl (townB t)) st := by
  obtain ⟨many, circle, roads, lights⟩ := t
  have hr : roads.length ≤ 1000 := hs.roads
  have hl : lights.length ≤ 1000 := hs.lights
  have hw : ∀ l ∈ lights, ∀ p, l = some p → p.2.length ≤ 1000 ∧ ∀ r ∈ p.2, r.2.length ≤ 1000 := hs.rows
  unfold m_is_town b_is_town townD
  by_cases c1 : 1 ≤ many
  · by_cases c2 : many ≤ 6
    · by_cases c3 : 1 ≤ circle
      · by_cases c4 : circle ≤ 12
        · by_cases c5 : (1 : Int) ≤ (roads.length : Int)
          · by_cases c6 : (roads.length : Int) ≤ 10
            · have c5' : 1 ≤ roads.length := by omega
              have c6' : roads.length ≤ 10 := by omega
              simp [envOf, c1, c2, c3, c4, c5, c6, le_line hr]
              rw [compM_map (fun x => .bl (roadB many x))]
              · simp [x_all_map]
                by_cases c7 : roads.all (roadB many) = true
                · by_cases c8 : many ≤ (lights.length : Int)
                  · by_cases c9 : (lights.length : Int) ≤ many
                    · have c89 : (lights.length : Int) = many := by omega
                      simp [c7, c8, c9, pairs_map, le_line hl]
                      rw [compM_map (fun p => .bl (lightB circle (endsAt roads (p.2 : Nat)) p.1))]
                      · simp [x_all_map, townB, c1, c2, c3, c4, c5', c6', c7, c89]
                      · intro p hp
                        have hm : p.1 ∈ lights := by
                          obtain ⟨l, i⟩ := p
                          exact (List.mem_zipIdx hp).2.2 ▸ List.getElem_mem _
                        simp [ends_ok roads _ st hr, lights_ok p.1 circle _ st (hw _ hm)]
                    · have c89 : ¬ (lights.length : Int) = many := by omega
                      simp [c7, c8, c9, townB, c89]
                  · have c89 : ¬ (lights.length : Int) = many := by omega
                    simp [c7, c8, townB, c89]
                · rw [Bool.not_eq_true] at c7
                  simp [c7, townB]
              · intro r _
                simp [road_row_ok]
            · have c6' : ¬ roads.length ≤ 10 := by omega
              simp [envOf, c1, c2, c3, c4, c5, c6, townB, c6']
          · have c5' : ¬ 1 ≤ roads.length := by omega
            simp [envOf, c1, c2, c3, c4, c5, townB, c5']
        · simp [envOf, c1, c2, c3, c4, townB]
      · simp [envOf, c1, c2, c3, townB]
    · simp [envOf, c1, c2, townB]
  · simp [envOf, c1, townB]
end LB
/- ===== PEq ===== -/
set_option Elab.async false
set_option linter.all false
set_option maxRecDepth 100000
set_option autoImplicit false
namespace LB
open PySem PySem.Spec PyProof.Rows L2
/-! # == of plain data -/
mutual
def D.pl : D → Bool
  | .non => true
  | .bl _ => true
  | .int _ => true
  | .str s => PyData.strOk s
  | .tup ds => pls ds
  | .lst ds => pls ds
  | .ref _ => false
  | .scr _ => false
def pls : List D → Bool
  | [] => true
  | d :: ds => D.pl d && pls ds
end
mutual
def D.dep : D → Nat
  | .tup ds => deps ds + 1
  | .lst ds => deps ds + 1
  | _ => 0
def deps : List D → Nat
  | [] => 0
  | d :: ds => max (D.dep d) (deps ds)
end
mutual
theorem py_pl : ∀ d : D, d.pl = true → ∃ p, toPy0 d = some p ∧ p.canLay0 = true ∧ p.depth = d.dep
  | .non, _ => ⟨.none, by rw [toPy0], by rw [PyData.canLay0], by rw [PyData.depth, D.dep] <;> simp⟩
  | .bl b, _ => ⟨.bool b, by rw [toPy0], by rw [PyData.canLay0], by rw [PyData.depth, D.dep] <;> simp⟩
  | .int i, _ => ⟨.int i, by rw [toPy0], by rw [PyData.canLay0], by rw [PyData.depth, D.dep] <;> simp⟩
  | .str s, h => ⟨.str s, by rw [toPy0], by rw [PyData.canLay0]; rw [D.pl] at h; exact h, by rw [PyData.depth, D.dep] <;> simp⟩
  | .tup ds, h => by
    rw [D.pl] at h
    obtain ⟨ps, h1, h2, h3⟩ := pys_pl ds h
    exact ⟨.tuple ps, by rw [toPy0, h1]; rfl, by rw [PyData.canLay0]; exact h2, by rw [PyData.depth, D.dep, h3]⟩
  | .lst ds, h => by
    rw [D.pl] at h
    obtain ⟨ps, h1, h2, h3⟩ := pys_pl ds h
    exact ⟨.list ps, by rw [toPy0, h1]; rfl, by rw [PyData.canLay0]; exact h2, by rw [PyData.depth, D.dep, h3]⟩
  | .ref _, h => by rw [D.pl] at h; cases h
  | .scr _, h => by rw [D.pl] at h; cases h
theorem pys_pl : ∀ ds : List D, pls ds = true → ∃ ps, toPys ds = some ps ∧ PyData.canLayAll0 ps = true ∧ PyData.depthAll ps = deps ds
  | [], _ => ⟨[], by rw [toPys], by rw [PyData.canLayAll0], by rw [PyData.depthAll, deps]⟩
  | d :: ds, h => by
    rw [pls, Bool.and_eq_true] at h
    obtain ⟨p, h1, h2, h3⟩ := py_pl d h.1
    obtain ⟨ps, h4, h5, h6⟩ := pys_pl ds h.2
    exact ⟨p :: ps, by rw [toPys, h1, h4], by rw [PyData.canLayAll0, h2, h5]; rfl, by rw [PyData.depthAll, deps, h3, h6]⟩
end
theorem toPys_len : ∀ {ds : List D} {ps : List PyData}, toPys ds = some ps → ps.length = ds.length
  | [], ps, h => by rw [toPys] at h; cases h; rfl
  | d :: ds, ps, h => by
    rw [toPys] at h
    cases h1 : toPy0 d with
    | none => rw [h1] at h; cases h
    | some p =>
      cases h2 : toPys ds with
      | none => rw [h1, h2] at h; cases h
      | some qs =>
        rw [h1, h2] at h; cases h
        rw [List.length_cons, List.length_cons, toPys_len h2]
theorem shaped_of {p : PyData} (h : p.canLay0 = true) (hd : p.depth ≤ 64) : SeqAt.shaped p = true := by
  unfold SeqAt.shaped
  rw [h, decide_eq_true hd]; rfl
theorem eqDeep_refl {st : Sto} {d : D} {p : PyData} (h : toPy st d = some p) (h1 : p.canLay0 = true) (h2 : p.depth ≤ 64) : eqDeep st d d = some true := by
  unfold eqDeep
  rw [h]
  simp only [shaped_of h1 h2, and_self, if_true]
  rw [SeqAt.eqv_refl p h1]
theorem eqD_refl {st : Sto} {d : D} (h : d.pl = true) (h2 : d.dep ≤ 64) : eqD st d d = some true := by
  obtain ⟨p, q1, q2, q3⟩ := py_pl d h
  have deep : toPy st d = some p → eqDeep st d d = some true := fun e => eqDeep_refl e q2 (by omega)
  cases d with
  | non => simp [eqD, scalV, scal]
  | bl b => simp [eqD, scalV, scal]
  | int i => simp [eqD, scalV, scal]
  | str s => simp [eqD, scalV, scal]
  | tup ds => exact deep q1
  | lst ds => exact deep q1
  | ref n => rw [D.pl] at h; cases h
  | scr ns => rw [D.pl] at h; cases h
theorem ne_refl {st : Sto} {d : D} (h : d.pl = true) (h2 : d.dep ≤ 64) : vNe d d st = .ok (.bl false) st := by
  unfold vNe
  rw [eqD_refl h h2]; rfl
theorem eq_refl {st : Sto} {d : D} (h : d.pl = true) (h2 : d.dep ≤ 64) : vEq d d st = .ok (.bl true) st := by
  unfold vEq
  rw [eqD_refl h h2]
/-- a list of the store and [] -/
theorem ne_empty {st : Sto} {n : Nat} {ds : List D} (hn : st[n]? = some (.lst ds)) (h : pls ds = true) (h2 : deps ds ≤ 63) : vNe (.ref n) (.lst []) st = .ok (.bl (!ds.isEmpty)) st := by
  obtain ⟨ps, q1, q2, q3⟩ := pys_pl ds h
  have e1 : toPy st (.ref n) = some (.list ps) := by simp only [toPy, hn, q1, Option.map_some]
  have e2 : toPy st (.lst []) = some (.list []) := rfl
  have s1 : SeqAt.shaped (.list ps) = true := shaped_of (by rw [PyData.canLay0]; exact q2) (by rw [PyData.depth, q3]; omega)
  have s2 : SeqAt.shaped (.list []) = true := rfl
  have e : eqD st (.ref n) (.lst []) = some ds.isEmpty := by
    show eqDeep st _ _ = _
    unfold eqDeep
    rw [e1, e2]
    simp only [s1, s2, and_self, if_true]
    congr 1
    have hl := toPys_len q1
    cases ds with
    | nil => cases ps with
      | nil => rfl
      | cons => simp at hl
    | cons => cases ps with
      | nil => simp at hl
      | cons => rfl
  unfold vNe
  rw [e]
@[simp] theorem pl_int (i : Int) : (D.int i).pl = true := rfl
@[simp] theorem pl_bl (i : Bool) : (D.bl i).pl = true := rfl
@[simp] theorem pl_non : D.non.pl = true := rfl
@[simp] theorem pl_tup (ds : List D) : (D.tup ds).pl = pls ds := rfl
@[simp] theorem pl_lst (ds : List D) : (D.lst ds).pl = pls ds := rfl
@[simp] theorem pls_nil : pls [] = true := rfl
@[simp] theorem pls_cons (d : D) (ds : List D) : pls (d :: ds) = (d.pl && pls ds) := rfl
@[simp] theorem dep_int (i : Int) : (D.int i).dep = 0 := rfl
@[simp] theorem dep_str (i : Str) : (D.str i).dep = 0 := rfl
@[simp] theorem dep_bl (i : Bool) : (D.bl i).dep = 0 := rfl
@[simp] theorem dep_non : D.non.dep = 0 := rfl
@[simp] theorem dep_tup (ds : List D) : (D.tup ds).dep = deps ds + 1 := rfl
@[simp] theorem dep_lst (ds : List D) : (D.lst ds).dep = deps ds + 1 := rfl
@[simp] theorem deps_nil : deps [] = 0 := rfl
@[simp] theorem deps_cons (d : D) (ds : List D) : deps (d :: ds) = max d.dep (deps ds) := rfl
theorem pls_map {α : Type} (f : α → D) : ∀ (xs : List α), (∀ x ∈ xs, (f x).pl = true) → pls (xs.map f) = true
  | [], _ => rfl
  | x :: xs, h => by rw [List.map_cons, pls, h x List.mem_cons_self, pls_map f xs fun y hy => h y (List.mem_cons_of_mem _ hy)]; rfl
theorem deps_map {α : Type} (f : α → D) (n : Nat) : ∀ (xs : List α), (∀ x ∈ xs, (f x).dep ≤ n) → deps (xs.map f) ≤ n
  | [], _ => Nat.zero_le _
  | x :: xs, h => by
    rw [List.map_cons, deps]
    exact Nat.max_le.mpr ⟨h x List.mem_cons_self, deps_map f n xs fun y hy => h y (List.mem_cons_of_mem _ hy)⟩
end LB
/- ===== PGenA ===== -/
set_option Elab.async false
set_option linter.all false
set_option maxRecDepth 100000
set_option autoImplicit false
namespace LB
open PySem PySem.Spec PyProof.Rows L2
/-! # the towns that the laws draw -/
theorem x_all_true {α : Type} (xs : List α) (st : Sto) : vAll (.lst (xs.map fun _ => D.bl true)) st = .ok (.bl true) st := by
  rw [x_all_map st (fun _ => true)]; simp
theorem set_self {S : Sto} {p : Nat} {o : O} (h : S[p]? = some o) : S.set p o = S := by
  apply List.ext_getElem?
  intro i
  by_cases e : p = i
  · subst e; rw [List.getElem?_set_self (lt_get h), h]
  · rw [List.getElem?_set_ne e]
section
variable {S L : Sto} {p n : Nat} {o : O} {m : Int} {P : D → Sto → Prop}
theorem draw_w0 (ho : S[p]? = some o) (hp : PenOk n o) (hn : n < 2 ^ 40) (hm : 0 < m) (hm2 : m < 2 ^ 30) (k : ∀ r o', 0 ≤ r → r < m → PenOk (n + 1) o' → P (.int r) (S.set p o')) : Ok P (m_l_draw [.ref p, .int m] S) := by
  obtain ⟨r, o', e, h1, h2, h3⟩ := draw_ok ho hp hn hm hm2
  rw [e]
  exact k r o' h2 h3 h1
theorem draw_w1 (hl : p < S.length) (hp : PenOk n o) (hn : n < 2 ^ 40) (hm : 0 < m) (hm2 : m < 2 ^ 30) (k : ∀ r o', 0 ≤ r → r < m → PenOk (n + 1) o' → P (.int r) (S.set p o')) : Ok P (m_l_draw [.ref p, .int m] (S.set p o)) :=
  draw_w0 (get_set hl) hp hn hm hm2 fun r o' h1 h2 h3 => by rw [List.set_set]; exact k r o' h1 h2 h3
theorem draw_w2 (hl : p < S.length) (hp : PenOk n o) (hn : n < 2 ^ 40) (hm : 0 < m) (hm2 : m < 2 ^ 30) (k : ∀ r o', 0 ≤ r → r < m → PenOk (n + 1) o' → P (.int r) (S.set p o' ++ L)) : Ok P (m_l_draw [.ref p, .int m] (S.set p o ++ L)) :=
  draw_w0 (get_app (get_set hl)) hp hn hm hm2 fun r o' h1 h2 h3 => by
    rw [set_app (by rw [List.length_set]; exact hl), List.set_set]; exact k r o' h1 h2 h3
end
theorem rising_of {g : List Int} (h : g.Pairwise (· < ·)) : risingB g = true := by
  unfold risingB
  induction g with
  | nil => rfl
  | cons a t ih =>
    cases t with
    | nil => rfl
    | cons b t =>
      have h1 := List.pairwise_cons.mp h
      have := ih h1.2
      simp only [List.drop_one, List.tail_cons, List.zip_cons_cons, List.all_cons] at this ⊢
      rw [this, decide_eq_true (h1.1 b List.mem_cons_self)]; rfl
theorem zipIdx_lt {α : Type} : ∀ (xs : List α) (k : Nat), ((xs.zipIdx k).map fun p => (p.2 : Int)).Pairwise (· < ·)
  | [], _ => List.Pairwise.nil
  | x :: xs, k => by
    rw [List.zipIdx_cons, List.map_cons]
    refine List.pairwise_cons.mpr ⟨fun a ha => ?_, zipIdx_lt xs (k + 1)⟩
    obtain ⟨q, hq, rfl⟩ := List.mem_map.mp ha
    obtain ⟨y, i⟩ := q
    have := (List.mem_zipIdx hq).1
    show (k : Int) < (i : Int)
    omega
theorem ends_lt (roads : List Road) (c : Int) : (endsAt roads c).Pairwise (· < ·) :=
  List.Pairwise.sublist (List.Sublist.map _ List.filter_sublist) (zipIdx_lt roads 0)
theorem ends_len (roads : List Road) (c : Int) : (endsAt roads c).length ≤ roads.length := by
  unfold endsAt
  rw [List.length_map]
  refine Nat.le_trans (List.length_filter_le _ _) ?_
  simp
theorem fin_pen0 {S : Sto} {p n : Nat} {o : O} {d : D} (hp : p < S.length) (ho : PenOk n o) (hd : d.nr = true) : fin .val S d (S.set p o) = .ok d (S.set p o) := by
  have := fin_pen (L := []) hp ho hd
  rwa [List.append_nil] at this
@[simp] theorem nrs_map {α : Type} (f : α → D) (h : ∀ x, (f x).nr = true) : ∀ xs : List α, nrs (xs.map f) = true
  | [] => rfl
  | x :: xs => by rw [List.map_cons, nrs, h x, nrs_map f h xs]; rfl
@[simp] theorem nr_int (i : Int) : (D.int i).nr = true := rfl
@[simp] theorem nr_str (i : Str) : (D.str i).nr = true := rfl
@[simp] theorem nr_bl (i : Bool) : (D.bl i).nr = true := rfl
@[simp] theorem nr_non : D.non.nr = true := rfl
@[simp] theorem nr_tup (ds : List D) : (D.tup ds).nr = nrs ds := rfl
@[simp] theorem nr_lst (ds : List D) : (D.lst ds).nr = nrs ds := rfl
@[simp] theorem nrs_nil : nrs [] = true := rfl
@[simp] theorem nrs_cons (d : D) (ds : List D) : nrs (d :: ds) = (d.nr && nrs ds) := rfl
theorem nrs_ints (g : List Int) : nrs (g.map D.int) = true := nrs_map _ (fun _ => rfl) g
@[simp] theorem nr_road (r : Road) : (roadD r).nr = true := rfl
@[simp] theorem nr_row (r : Row) : (rowD r).nr = true := by
  unfold rowD
  simp [nrs_ints]
@[simp] theorem nr_light : ∀ l : Light, (lightD l).nr = true
  | none => rfl
  | some p => by
    unfold lightD
    simp [nrs_map _ nr_row]
@[simp] theorem nr_town (t : Town) : (townD t).nr = true := by
  unfold townD
  simp [nrs_map _ nr_road, nrs_map _ nr_light]
/-- [x for x in xs if drawn], over plain numbers -/
theorem green_ok {S L : Sto} {p n : Nat} {o : O} {P : List D → Sto → Prop} {env : Ev} (some0 : List Int) (hl : p < S.length) (hp : PenOk n o) (hn : n + 2000 < 2 ^ 40) (hs : some0.length ≤ 1000) (he : env[0]? = some (some (.ref p))) (he8 : 8 < env.length)
    (k : ∀ (zs : List Int) (o' : O), zs.Sublist some0 → PenOk (n + 1000) o' → P (zs.map .int) (S.set p o' ++ L)) :
    Ok P (compM ⟨some0.map .int, []⟩ (gNm 8) (cB (c2 vGt (cCall 2 m_l_draw (aCons (cVar 0) (aCons (cC (.int 4)) aNil))) (cC (.int 1)))) (cVar 8) (some0.map .int) env (S.set p o ++ L)) := by
  have q := compM_ok (xs := some0.map D.int) (g := gNm 8) (c := cB (c2 vGt (cCall 2 m_l_draw (aCons (cVar 0) (aCons (cC (.int 4)) aNil))) (cC (.int 1)))) (e := cVar 8) (env := env)
    (fun i ys st => i ≤ some0.length ∧ ∃ zs o', ys = zs.map D.int ∧ zs.Sublist (some0.take i) ∧ PenOk (n + i) o' ∧ st = S.set p o' ++ L) ?_ (st := S.set p o ++ L) ⟨Nat.zero_le _, [], o, rfl, by simp, hp, rfl⟩
  · refine q.mono fun ys st' ⟨hi, zs, o', h1, h2, h3, h4⟩ => ?_
    subst h1 h4
    refine k zs o' (h2.trans (List.take_sublist _ _)) (h3.mono (by rw [List.length_map]; omega))
  · intro i d ys st hd ⟨hi, zs, o', h1, h2, h3, h4⟩
    subst h1 h4
    rw [List.getElem?_map] at hd
    cases hx : some0[i]? with
    | none => rw [hx] at hd; cases hd
    | some x =>
      rw [hx] at hd
      cases hd
      have hlt : i < some0.length := (List.getElem?_eq_some_iff.mp hx).1
      have e0 : (env.set 8 (some (D.int x)))[0]? = some (some (.ref p)) := by rw [List.getElem?_set_ne (by decide)]; exact he
      have e8 : (env.set 8 (some (D.int x)))[8]? = some (some (.int x)) := List.getElem?_set_self he8
      simp only [x_gNm, ok_ok, x_cB, x_c2, x_cCall, x_aCons, x_aNil, x_cVar, x_cC, bind_ok, e0, e8, List.length_cons, List.length_nil, if_true, ok_bind]
      refine draw_w2 hl h3 (by omega) (by decide) (by decide) fun r o2 r0 r4 p2 => ?_
      have t1 : some0.take (i + 1) = some0.take i ++ [x] := by
        rw [List.take_succ, hx]; rfl
      by_cases hr : 1 < r
      · simp [hr]
        exact ⟨hlt, zs ++ [x], by simp, by rw [t1]; exact List.Sublist.append h2 (List.Sublist.refl _), o2, p2, rfl⟩
      · simp [hr]
        exact ⟨by omega, zs, rfl, by rw [t1]; exact h2.trans (List.sublist_append_left _ _), o2, p2, rfl⟩
def LightGood (circle : Int) (E : List Int) (l : Light) : Prop := lightB circle E l = true ∧ ∀ pr, l = some pr → pr.2.length ≤ 1000 ∧ ∀ r ∈ pr.2, r.2.length ≤ 1000
structure LInv (S : Sto) (p q n : Nat) (E : List Int) (c circle : Int) (left : Int) (rows : List Row) (o' : O) (env : Ev) (st : Sto) : Prop where
  l0 : 0 ≤ left
  l1 : left ≤ circle
  ev : ∃ x7 x8 x9 x10 : Option D, env = [some (.ref p), some (.ref q), some (.int c), some (.int circle), some (.lst (E.map .int)), some (.ref S.length), some (.int left), x7, x8, x9, x10]
  es : st = S.set p o' ++ [.lst (rows.map rowD)]
  po : PenOk (n + 1 + (circle - left).toNat * 1001) o'
  r3 : 0 < left → rows.length ≤ 3
  r4 : rows.length ≤ 4
  r1 : 0 < rows.length ∨ left = circle
  sm : (rows.map (·.1)).sum + left = circle
  al : rows.all (turnB E) = true
  sz : ∀ r ∈ rows, r.2.length ≤ 1000
theorem lightsA_ok {S : Sto} {p q n : Nat} {o : O} {roads : List Road} {c circle : Int} {P : D → Sto → Prop} (ho : S[p]? = some o) (hp : PenOk n o) (hn : n + 100000 < 2 ^ 40) (hq : S[q]? = some (.lst (roads.map roadD))) (hpq : p ≠ q) (hr : roads.length ≤ 1000) (h1 : 1 ≤ circle) (h12 : circle ≤ 12)
    (k : ∀ l o', LightGood circle (endsAt roads c) l → PenOk (n + 20000) o' → P (lightD l) (S.set p o')) : Ok P (m_l_lights [.ref p, .ref q, .int c, .int circle] S) := by
  have hl := lt_get ho
  unfold m_l_lights b_l_lights
  simp [envOf]
  refine draw_w0 ho hp (by omega) (by decide) (by decide) fun r o1 r0 r5 p1 => ?_
  have hq1 : (S.set p o1)[q]? = some (.lst (roads.map roadD)) := by rw [List.getElem?_set_ne hpq]; exact hq
  by_cases h2 : r < 2
  · simp [h2, fin_pen0 (d := .non) hl p1 rfl]
    exact k none o1 ⟨rfl, fun _ h => nomatch h⟩ (p1.mono (by omega))
  · simp [h2, enIts, hq1, pairs_map, le_line hr]
    rw [compM_pureG (p := fun x => decide (x.1.2.1 = c)) (f := fun x => .int (x.2 : Nat))]
    rotate_left
    · intro x hx
      simp at hx; subst hx
      exact hq1
    · intro x _
      simp [roadD]
    rw [show (List.map (fun x : Road × Nat => D.int (x.2 : Int)) (List.filter (fun x => decide (x.1.2.1 = c)) roads.zipIdx)) = (endsAt roads c).map D.int by unfold endsAt; rw [List.map_map]; rfl]
    have hEl : (endsAt roads c).length ≤ 1000 := Nat.le_trans (ends_len _ _) hr
    have hEp : (endsAt roads c).Pairwise (· < ·) := ends_lt _ _
    generalize endsAt roads c = E at k hEl hEp ⊢
    simp
    refine Ok.mono (while_ok (fun m env st => ∃ left rows o', m = left.toNat ∧ LInv S p q n E c circle left rows o' env st) (fun env st => ∃ rows o', LInv S p q n E c circle 0 rows o' env st) (fun _ _ => False) ?_ (m := circle.toNat) ⟨circle, [], o1, rfl, ⟨by omega, by omega, ⟨_, _, _, _, rfl⟩, rfl, p1.mono (by omega), fun _ => by simp, by simp, .inr rfl, by simp, rfl, by simp⟩⟩) ?_
    · rintro m env st ⟨left, rows, o2, rfl, I⟩
      obtain ⟨l0, l1, ⟨x7, x8, x9, x10, rfl⟩, rfl, po, r3, r4, hr1, sm, al, sz⟩ := I
      have hrow : (S.set p o2 ++ [O.lst (rows.map rowD)])[S.length]? = some (.lst (rows.map rowD)) := by simp
      by_cases hleft : 0 < left
      · -- the beats of the row, then its green, then it is kept
        have tail : ∀ (beats : Int) (o3 : O), 1 ≤ beats → beats ≤ left → (rows.length = 3 → beats = left) → PenOk (n + 1 + (circle - left).toNat * 1001 + 1) o3 →
            Ok (fun o st2 => match o with
              | .nx e => ∃ m', m' < left.toNat ∧ ∃ left' rows' o', m' = left'.toNat ∧ LInv S p q n E c circle left' rows' o' e st2
              | .ct e => ∃ m', m' < left.toNat ∧ ∃ left' rows' o', m' = left'.toNat ∧ LInv S p q n E c circle left' rows' o' e st2
              | .bk e => ∃ rows o', LInv S p q n E c circle 0 rows o' e st2
              | .rt d => False)
              ((sSeq (sAsg (cBlt (f1 vTup) (aCons (cLc (iSeq (cVar 4)) [8] (gNm 8) (cB (c2 vGt (cCall 2 m_l_draw (aCons (cVar 0) (aCons (cC (.int 4)) aNil))) (cC (.int 1)))) (cVar 8)) aNil)) (gNm 10))
    (sSeq (sDrop (cMt "list" mAppend (cVar 5) (aCons (cTup (aCons (cVar 9) (aCons (cVar 10) aNil))) aNil)))
    (sAsg (c2 vSub (cVar 6) (cVar 9)) (gNm 6)))) [some (.ref p), some (.ref q), some (.int c), some (.int circle), some (.lst (E.map .int)), some (.ref S.length), some (.int left), x7, x8, some (.int beats), x10] (S.set p o3 ++ [O.lst (rows.map rowD)])) := by
          intro beats o3 b1 b2 b3 p3
          simp [le_line hEl]
          refine green_ok (n := n + 1 + (circle - left).toNat * 1001 + 1) E hl p3 (by omega) hEl rfl (by simp) fun zs o4 hz p4 => ?_
          have hrow4 : (S.set p o4 ++ [O.lst (rows.map rowD)])[S.length]? = some (.lst (rows.map rowD)) := by simp
          have hrl : rows.length < sizeLine := Nat.lt_of_le_of_lt r4 (by decide)
          simp [isT, mAppend, hrl]
          have hs : (S.set p o4 ++ [O.lst (rows.map rowD)]).set S.length (O.lst (rows.map rowD ++ [.tup [.int beats, .tup (zs.map .int)]])) = S.set p o4 ++ [O.lst ((rows ++ [(beats, zs)]).map rowD)] := by
            rw [List.set_append, if_neg (by simp)]
            simp [rowD]
          refine ⟨(left - beats).toNat, by omega, left - beats, rfl, rows ++ [(beats, zs)], o4, ?_⟩
          have hmem : ∀ x ∈ zs, x ∈ E := fun x hx => hz.subset hx
          refine ⟨by omega, by omega, ⟨_, _, _, _, rfl⟩, ?_, p4.mono ?_, ?_, ?_, .inl (by simp), ?_, ?_, ?_⟩
          · simpa using hs
          · have : (circle - (left - beats)).toNat ≥ (circle - left).toNat + 1 := by omega
            have := Nat.mul_le_mul_right 1001 this
            omega
          · intro h
            have : rows.length ≠ 3 := fun e => by have := b3 e; omega
            have := r3 hleft
            simp; omega
          · have := r3 hleft
            simp; omega
          · simp; omega
          · rw [List.all_append, al]
            simp [turnB]
            refine ⟨⟨⟨b1, by omega⟩, hmem⟩, rising_of (hEp.sublist hz)⟩
          · intro r hr
            rcases List.mem_append.mp hr with h | h
            · exact sz r h
            · rw [List.mem_singleton.mp h]
              exact Nat.le_trans hz.length_le hEl
        have hr3 := r3 hleft
        simp [hleft, x_len_ref _ hrow]
        by_cases h3 : rows.length < 3
        · have h3' : (rows.length : Int) < 3 := by omega
          simp [h3, h3']
          refine draw_w2 hl po (by omega) (by decide) (by decide) fun b o3 b0 b5 p3 => ?_
          simp
          have T := tail (if 1 + b < left then 1 + b else left) o3 (by split <;> omega) (by split <;> omega) (by omega) p3
          simpa using T
        · have h3' : ¬ (rows.length : Int) < 3 := by omega
          simp [h3, h3']
          have T := tail left o2 (by omega) (by omega) (fun _ => rfl) (po.mono (by omega))
          simpa using T
      · have e0 : left = 0 := by omega
        subst e0
        simp
        exact ⟨rows, o2, by omega, l1, ⟨_, _, _, _, rfl⟩, rfl, po, r3, r4, hr1, sm, al, sz⟩
    · intro out st h
      cases out with
      | nx env =>
        obtain ⟨rows, o2, l0, l1, ⟨x7, x8, x9, x10, rfl⟩, rfl, po, r3, r4, hr1, sm, al, sz⟩ := h
        simp
        refine draw_w2 hl po (by omega) (by omega) (by omega) fun sh o3 s0 s1 p3 => ?_
        have hrow : (S.set p o3 ++ [O.lst (rows.map rowD)])[S.length]? = some (.lst (rows.map rowD)) := by simp
        simp [x_tup_ref _ hrow]
        rw [fin_pen (d := .tup [.int sh, .tup (rows.map rowD)]) hl p3 (by simp [nrs_map _ nr_row])]
        refine k (some (sh, rows)) o3 ⟨?_, fun pr h => by cases h; exact ⟨by show rows.length ≤ 1000; omega, sz⟩⟩ (p3.mono (by omega))
        have hsum : (rows.map (·.1)).sum = circle := by omega
        have hpos : 1 ≤ rows.length := by omega
        simp only [lightB, hsum, al, Bool.and_true, decide_true]
        exact decide_eq_true ⟨s0, by omega, hpos, r4⟩
      | _ => exact h.elim
@[simp] theorem pl_road (r : Road) : (roadD r).pl = true := rfl
theorem dep_road (r : Road) : (roadD r).dep ≤ 1 := by unfold roadD; simp
structure GenA (t : Town) : Prop where
  ok : townB t = true
  small : SmallTown t
  ring : ∀ c : Int, 0 ≤ c → c < t.many → ∃ r ∈ t.roads, r.1 = c
theorem circle_at (r : Int) (h0 : 0 ≤ r) (h6 : r < 6) : ∃ z : Int, L2.atI [D.int 1, D.int 2, D.int 3, D.int 4, D.int 6, D.int 12] r = some (.int z) ∧ 1 ≤ z ∧ z ≤ 12 := by
  have : r = 0 ∨ r = 1 ∨ r = 2 ∨ r = 3 ∨ r = 4 ∨ r = 5 := by omega
  rcases this with h | h | h | h | h | h <;> subst h
  · exact ⟨1, rfl, by decide, by decide⟩
  · exact ⟨2, rfl, by decide, by decide⟩
  · exact ⟨3, rfl, by decide, by decide⟩
  · exact ⟨4, rfl, by decide, by decide⟩
  · exact ⟨6, rfl, by decide, by decide⟩
  · exact ⟨12, rfl, by decide, by decide⟩
structure RsOk (many : Int) (i : Nat) (rs : List Road) : Prop where
  len : rs.length = i
  al : ∀ r ∈ rs, roadB many r = true
  ring : ∀ c : Int, 0 ≤ c → c < i → c < many → ∃ r ∈ rs, r.1 = c
theorem RsOk.snoc {many : Int} {i : Nat} {rs : List Road} {r : Road} (h : RsOk many i rs) (hr : roadB many r = true) (hi : (i : Int) < many → r.1 = i) : RsOk many (i + 1) (rs ++ [r]) := by
  refine ⟨by rw [List.length_append, h.len]; rfl, fun x hx => ?_, fun c c0 c1 c2 => ?_⟩
  · rcases List.mem_append.mp hx with q | q
    · exact h.al x q
    · rw [List.mem_singleton.mp q]; exact hr
  · by_cases hc : c < i
    · obtain ⟨x, hx, e⟩ := h.ring c c0 hc c2
      exact ⟨x, List.mem_append_left _ hx, e⟩
    · refine ⟨r, List.mem_append_right _ (List.mem_singleton.mpr rfl), ?_⟩
      have : c = i := by omega
      subst this
      exact hi c2
structure CInv (S : Sto) (p n : Nat) (many : Int) (i : Nat) (ys : List D) (st : Sto) : Prop where
  ex : ∃ rs o', ys = rs.map roadD ∧ RsOk many i rs ∧ PenOk (n + i) o' ∧ st = S.set p o'
structure FInv (S : Sto) (p n : Nat) (many circle : Int) (i : Nat) (env : Ev) (st : Sto) : Prop where
  ex : ∃ (rs : List Road) (o' : O) (x4 x5 x6 x7 x8 : Option D), env = [some (.ref p), some (.int many), some (.int circle), some (.ref S.length), x4, x5, x6, x7, x8] ∧ RsOk many (many.toNat + i) rs ∧ PenOk (n + 3 * i) o' ∧ st = S.set p o' ++ [.lst (rs.map roadD)]
structure WInv (S : Sto) (p n : Nat) (many circle : Int) (rs : List Road) (m : Nat) (env : Ev) (st : Sto) : Prop where
  ex : ∃ (left mixed : List Road) (o' : O) (x4 x5 x8 : Option D), env = [some (.ref p), some (.int many), some (.int circle), some (.ref S.length), x4, x5, some (.ref (S.length + 1)), some (.ref (S.length + 2)), x8] ∧ left.length = m ∧ (left ++ mixed).Perm rs ∧ PenOk (n + mixed.length) o' ∧ st = S.set p o' ++ [.lst (rs.map roadD), .lst (left.map roadD), .lst (mixed.map roadD)]
structure TInv (S : Sto) (p n : Nat) (L : Sto) (many circle : Int) (roads : List Road) (i : Nat) (ys : List D) (st : Sto) : Prop where
  ex : ∃ (ls : List Light) (o' : O), ys = ls.map lightD ∧ ls.length = i ∧ (∀ j l, ls[j]? = some l → LightGood circle (endsAt roads (j : Nat)) l) ∧ PenOk (n + 20000 * i) o' ∧ st = S.set p o' ++ L
theorem range_get {m i : Nat} {d : D} (h : ((List.range m).map fun i : Nat => D.int (i : Int))[i]? = some d) : d = .int (i : Int) ∧ i < m := by
  rw [List.getElem?_map] at h
  cases q : (List.range m)[i]? with
  | none => rw [q] at h; cases h
  | some j =>
    rw [q] at h
    obtain ⟨h1, h2⟩ := List.getElem?_eq_some_iff.mp q
    rw [List.getElem_range] at h2
    subst h2
    cases h
    exact ⟨rfl, by simpa using h1⟩
theorem seq_w {a b : SM} {env : Ev} {st : Sto} {P : Out → Sto → Prop} (h : Ok (fun o st1 => match o with
    | .nx e => Ok P (b e st1)
    | o => P o st1) (a env st)) : Ok P (sSeq a b env st) := by
  rw [x_sSeq, ok_bind]
  refine h.mono fun o st1 q => ?_
  cases o <;> exact q
theorem fn_w {gc : Gc} {N : Nat} {m : SM} {ds : List D} {st : Sto} {P : D → Sto → Prop} (h : Ok (fun o st' => match o with
    | .nx _ => Ok P (fin gc st .non st')
    | .rt d => Ok P (fin gc st d st')
    | _ => False) (m (envOf N ds) st)) : Ok P (fnM gc N m ds st) := by
  rw [x_fnM, ok_bind]
  refine h.mono fun o st1 q => ?_
  cases o <;> exact q
theorem big_size {z : Int} (h : z ≤ 1000) : z ≤ (sizeLine : Int) := by
  have : sizeLine = 16777216 := rfl
  omega
theorem app_get1 {S : Sto} {x : O} {L : Sto} {n : Nat} (h : n = S.length) : (S ++ x :: L)[n]? = some x := by subst h; simp
theorem app_get2 {S : Sto} {x y : O} {L : Sto} {n : Nat} (h : n = S.length + 1) : (S ++ x :: y :: L)[n]? = some y := by
  subst h
  rw [List.getElem?_append_right (by omega)]
  simp
theorem app_get3 {S : Sto} {x y z : O} {L : Sto} {n : Nat} (h : n = S.length + 2) : (S ++ x :: y :: z :: L)[n]? = some z := by
  subst h
  rw [List.getElem?_append_right (by omega)]
  simp
theorem app_set1 {S : Sto} {x y : O} {L : Sto} {n : Nat} (h : n = S.length) : (S ++ x :: L).set n y = S ++ y :: L := by
  subst h
  rw [List.set_append, if_neg (by omega)]
  simp
theorem app_set2 {S : Sto} {x y z : O} {L : Sto} {n : Nat} (h : n = S.length + 1) : (S ++ x :: y :: L).set n z = S ++ x :: z :: L := by
  subst h
  rw [List.set_append, if_neg (by omega)]
  simp
theorem app_set3 {S : Sto} {x y z w : O} {L : Sto} {n : Nat} (h : n = S.length + 2) : (S ++ x :: y :: z :: L).set n w = S ++ x :: y :: w :: L := by
  subst h
  rw [List.set_append, if_neg (by omega)]
  simp
theorem pop_ok {st : Sto} {n : Nat} {xs : List D} {i : Int} {x : D} (h : st[n]? = some (.lst xs)) (h0 : 0 ≤ i) (hi : i < xs.length) (hx : xs[i.toNat]? = some x) : mPopAt (.ref n) [.int i] st = .ok x (st.set n (.lst (xs.eraseIdx i.toNat))) := by
  have e := (List.getElem?_eq_some_iff.mp hx).2
  simp [mPopAt, h, ixN, h0, hi, hx, e]
theorem append_ok {st : Sto} {n : Nat} {xs : List D} {y : D} (h : st[n]? = some (.lst xs)) (hl : xs.length < 1000) : mAppend (.ref n) [y] st = .ok .non (st.set n (.lst (xs ++ [y]))) := by
  have : xs.length < sizeLine := Nat.lt_of_lt_of_le hl (by decide)
  simp [mAppend, h, this]
theorem map_erase {α : Type} (f : α → D) : ∀ (xs : List α) (k : Nat), (xs.map f).eraseIdx k = (xs.eraseIdx k).map f
  | [], k => by simp
  | x :: xs, 0 => rfl
  | x :: xs, k + 1 => by simp [map_erase f xs k]
theorem erase_perm {α : Type} : ∀ (xs : List α) (k : Nat) (h : k < xs.length), (xs[k] :: xs.eraseIdx k).Perm xs
  | x :: xs, 0, _ => List.Perm.refl _
  | x :: xs, k + 1, h => by
    have ih := erase_perm xs k (by simpa using h)
    simp only [List.getElem_cons_succ, List.eraseIdx_cons_succ]
    exact (List.Perm.swap _ _ _).trans (ih.cons x)
theorem perm_move {α : Type} {left mixed rs : List α} {k : Nat} {x : α} (h : (left ++ mixed).Perm rs) (hx : left[k]? = some x) : (left.eraseIdx k ++ (mixed ++ [x])).Perm rs := by
  obtain ⟨hk, e⟩ := List.getElem?_eq_some_iff.mp hx
  have h1 : (left[k] :: left.eraseIdx k).Perm left := erase_perm left k hk
  rw [e] at h1
  refine List.Perm.trans ?_ h
  refine List.Perm.trans ?_ (h1.append_right mixed)
  rw [← List.append_assoc]
  exact List.perm_append_comm.trans (by simp)
theorem townA_ok {S : Sto} {p n : Nat} {o : O} {P : D → Sto → Prop} (ho : S[p]? = some o) (hp : PenOk n o) (hn : n + 1000000 < 2 ^ 40)
    (k : ∀ t o', GenA t → PenOk (n + 200000) o' → P (townD t) (S.set p o')) : Ok P (m_l_town [.ref p] S) := by
  have hl := lt_get ho
  unfold m_l_town b_l_town
  refine fn_w (seq_w ?_)
  simp [envOf, -x_sSeq]
  refine draw_w0 ho hp (by omega) (by decide) (by decide) fun r1 o1 r10 r14 p1 => ?_
  simp [-x_sSeq]
  refine draw_w1 hl p1 (by omega) (by decide) (by decide) fun r2 o2 r20 r26 p2 => ?_
  obtain ⟨circle, hc, c1, c12⟩ := circle_at r2 r20 r26
  simp [hc, -x_sSeq]
  generalize hm : 1 + r1 = many
  have m1 : 1 ≤ many := by omega
  have m4 : many ≤ 4 := by omega
  have hb : -4611686018427387904 ≤ many ∧ many < 4611686018427387904 := by omega
  refine seq_w ?_
  simp [hb, big_size (show many ≤ 1000 by omega), -x_sSeq]
  refine Ok.mono (compM_ok (CInv S p (n + 2) many) ?_ ⟨[], o2, rfl, ⟨rfl, by simp, fun c h1 h2 => by omega⟩, p2, rfl⟩) ?_
  · rintro i d ys st hd ⟨rs, o', rfl, hrs, po, rfl⟩
    obtain ⟨rfl, hi2⟩ := range_get hd
    have hmod : 0 < many := by omega
    simp [hmod]
    refine draw_w1 hl po (by omega) (by decide) (by decide) fun r3 o3 r30 r34 p3 => ?_
    simp
    refine ⟨rs ++ [((i : Int), ((i : Int) + 1) % many, 1 + r3)], o3, by simp [roadD], hrs.snoc ?_ (fun _ => rfl), p3, rfl⟩
    have q1 := Int.emod_nonneg ((i : Int) + 1) (show many ≠ 0 by omega)
    have q2 := Int.emod_lt_of_pos ((i : Int) + 1) hmod
    unfold roadB
    exact decide_eq_true ⟨by simp; omega, by simp; omega, by simp, by simp; omega, by simpa using q1, by simp; omega⟩
  · rintro ys st ⟨rs, o3, rfl, hrs, p3, rfl⟩
    simp at hrs p3
    refine seq_w ?_
    simp [-x_sSeq]
    refine draw_w2 hl p3 (by omega) (by decide) (by decide) fun r4 o4 r40 r46 p4 => ?_
    have hb4 : -4611686018427387904 ≤ r4 ∧ r4 < 4611686018427387904 := by omega
    simp [hb4, -x_sSeq]
    refine Ok.mono (forM_ok (FInv S p (n + 2 + many.toNat + 1) many circle) (fun _ _ => False) (fun _ _ => False) rfl (fun _ _ _ _ => gd_nil) ?_ ⟨rs, o4, _, _, _, _, _, rfl, hrs, p4, rfl⟩) ?_
    · rintro i d env st hd ⟨rs, o5, x4, x5, x6, x7, x8, rfl, hrs, p5, rfl⟩
      obtain ⟨rfl, hi2⟩ := range_get hd
      have hi3 : i < 6 := by omega
      simp [isT]
      refine draw_w2 hl p5 (by omega) (by omega) (by omega) fun a o6 a0 am p6 => ?_
      try simp
      refine draw_w2 hl p6 (by omega) (by omega) (by omega) fun b o7 b0 bm p7 => ?_
      try simp
      refine draw_w2 hl p7 (by omega) (by omega) (by omega) fun l o8 l0 lm p8 => ?_
      have hlen : rs.length < sizeLine := by rw [hrs.len]; exact Nat.lt_of_lt_of_le (show _ < 1000 by omega) (by decide)
      simp [mAppend, hlen]
      refine ⟨rs ++ [(a, b, 1 + l)], o8, _, _, _, _, _, rfl, hrs.snoc ?_ (fun h => by omega), p8.mono (by omega), ?_⟩
      · unfold roadB
        exact decide_eq_true ⟨by simp; omega, by simp; omega, a0, by simp; omega, b0, by simp; omega⟩
      · simp [roadD]
    · rintro out st h
      cases out with
      | nx env =>
        obtain ⟨rs, o5, x4, x5, x6, x7, x8, rfl, hrs, p5, rfl⟩ := h.resolve_right id
        simp at hrs p5
        have hrl : rs.length ≤ 10 := by rw [hrs.len]; omega
        have g1 : (S.set p o5 ++ [O.lst (rs.map roadD)])[S.length]? = some (.lst (rs.map roadD)) := by simp
        refine seq_w ?_
        simp [x_newl_ref _ g1, -x_sSeq]
        refine seq_w ?_
        refine Ok.mono (while_ok (WInv S p (n + 2 + many.toNat + 1 + 3 * r4.toNat) many circle rs) (fun env st => WInv S p (n + 2 + many.toNat + 1 + 3 * r4.toNat) many circle rs 0 env st) (fun _ _ => False) ?_ (m := rs.length) ⟨rs, [], o5, _, _, _, rfl, rfl, by simp, p5, rfl⟩) ?_
        · rintro m env st ⟨left, mixed, o6, x4, x5, x8, rfl, rfl, hperm, p6, rfl⟩
          have g2 : (S.set p o6 ++ [O.lst (rs.map roadD), .lst (left.map roadD), .lst (mixed.map roadD)])[S.length + 1]? = some (.lst (left.map roadD)) := app_get2 (by simp)
          have hne := ne_empty g2 (pls_map _ left fun r _ => rfl) (Nat.le_trans (deps_map roadD 1 left fun r _ => dep_road r) (by decide))
          have hll : left.length + mixed.length = rs.length := by rw [← hperm.length_eq, List.length_append]
          simp [hne]
          cases hleft : left with
          | nil =>
            subst hleft
            simp
            exact ⟨[], mixed, o6, _, _, _, rfl, rfl, hperm, p6, rfl⟩
          | cons r0 rest =>
            rw [← hleft]
            have hpos : 0 < left.length := by rw [hleft]; simp
            have hnil : left ≠ [] := fun e => by rw [e] at hpos; simp at hpos
            simp [hnil, isT, x_len_ref _ g2, app_get3, app_get2]
            refine draw_w2 (m := (left.length : Int)) hl p6 (by omega) (by omega) (by omega) fun r o7 r0 rm p7 => ?_
            have hk : r.toNat < left.length := by omega
            have hx : (left.map roadD)[r.toNat]? = some (roadD left[r.toNat]) := by simp [hk]
            have g3 : (S.set p o7 ++ [O.lst (rs.map roadD), .lst (left.map roadD), .lst (mixed.map roadD)])[S.length + 1]? = some (.lst (left.map roadD)) := app_get2 (by simp)
            have hp := pop_ok g3 r0 (by simpa using rm) hx
            rw [app_set2 (by simp), map_erase] at hp
            have g4 : (S.set p o7 ++ [O.lst (rs.map roadD), .lst ((left.eraseIdx r.toNat).map roadD), .lst (mixed.map roadD)])[S.length + 2]? = some (.lst (mixed.map roadD)) := app_get3 (by simp)
            have ha := append_ok (y := roadD left[r.toNat]) g4 (by simp; omega)
            rw [app_set3 (by simp)] at ha
            simp [hp, ha]
            refine ⟨(left.eraseIdx r.toNat).length, ?_, left.eraseIdx r.toNat, mixed ++ [left[r.toNat]], o7, _, _, _, rfl, rfl, perm_move hperm (by simp [hk]), p7.mono (by simp; omega), by simp⟩
            rw [List.length_eraseIdx_of_lt hk]
            omega
        · rintro out st h
          cases out with
          | nx env =>
            obtain ⟨left, mixed, o6, x4, x5, x8, rfl, hl0, hperm, p6, rfl⟩ := h
            have hl0' : left = [] := List.eq_nil_of_length_eq_zero hl0
            subst hl0'
            simp at hperm
            have hml : mixed.length = rs.length := hperm.length_eq
            have g3 : ∀ o7 : O, (S.set p o7 ++ [O.lst (rs.map roadD), .lst [], .lst (mixed.map roadD)])[S.length + 2]? = some (.lst (mixed.map roadD)) := fun o7 => app_get3 (by simp)
            refine seq_w ?_
            simp [hb, big_size (show many ≤ 1000 by omega)]
            refine Ok.mono (compM_ok (TInv S p (n + 100) [O.lst (rs.map roadD), .lst [], .lst (mixed.map roadD)] many circle mixed) ?_ ⟨[], o6, rfl, rfl, fun j l h => by simp at h, p6.mono (by omega), by simp⟩) ?_
            · rintro i d ys st hd ⟨ls, o7, rfl, hls, hgood, p7, rfl⟩
              obtain ⟨rfl, hi2⟩ := range_get hd
              simp
              refine lightsA_ok (roads := mixed) (get_app (get_set hl)) p7 (by omega) (g3 o7) (by omega) (by omega) c1 c12 fun l o8 hl8 p8 => ?_
              rw [set_app (by rw [List.length_set]; exact hl), List.set_set]
              refine ⟨ls ++ [l], o8, by simp, by simp [hls], fun j l' hj => ?_, p8.mono (by omega), rfl⟩
              by_cases hji : j < ls.length
              · rw [List.getElem?_append_left hji] at hj
                exact hgood j l' hj
              · rw [List.getElem?_append_right (by omega)] at hj
                have : j = ls.length := by
                  have := (List.getElem?_eq_some_iff.mp hj).1
                  simp at this; omega
                subst this
                simp at hj
                subst hj
                rw [hls]
                exact hl8
            · rintro ys st ⟨ls, o7, rfl, hls, hgood, p7, rfl⟩
              simp at hls p7
              simp [x_tup_ref _ (g3 o7)]
              rw [fin_pen (d := .tup [.int many, .int circle, .tup (mixed.map roadD), .tup (ls.map lightD)]) hl p7 (by simp [nrs_map _ nr_road, nrs_map _ nr_light])]
              have hlen : (ls.length : Int) = many := by omega
              have hgood' : ∀ l ∈ ls, ∃ E, LightGood circle E l := fun l hm => by
                obtain ⟨j, hj⟩ := List.mem_iff_getElem?.mp hm
                exact ⟨_, hgood j l hj⟩
              refine k ⟨many, circle, mixed, ls⟩ o7 ⟨?_, ⟨by show mixed.length ≤ 1000; omega, by show ls.length ≤ 1000; omega, fun l hm pr e => ?_⟩, fun c c0 c1 => ?_⟩ (p7.mono ?_)
              · unfold townB
                have a1 : mixed.all (roadB many) = true := List.all_eq_true.mpr fun x hx => hrs.al x (hperm.subset hx)
                have a2 : (ls.zipIdx.all fun p => lightB circle (endsAt mixed (p.2 : Nat)) p.1) = true := List.all_eq_true.mpr fun x hx => by
                  obtain ⟨l, i⟩ := x
                  have hm := List.mem_zipIdx hx
                  have hj : ls[i]? = some l := by
                    rw [List.getElem?_eq_getElem (by omega)]
                    exact congrArg some (by simpa using hm.2.2.symm)
                  exact (hgood i l hj).1
                have a3 : 1 ≤ mixed.length := by rw [hml, hrs.len]; omega
                simp only [a1, a2, hlen, decide_true, Bool.and_true]
                exact decide_eq_true ⟨m1, by omega, c1, c12, a3, by omega⟩
              · obtain ⟨E, hE⟩ := hgood' l hm
                exact hE.2 pr e
              · obtain ⟨r, hr, e⟩ := hrs.ring c c0 (by have : c < many := c1; omega) c1
                exact ⟨r, hperm.symm.subset hr, e⟩
              · have : many.toNat ≤ 4 := by omega
                omega
          | _ => exact h.elim
      | _ => exact h.elim
end LB
/- ===== PNum ===== -/
set_option Elab.async false
set_option linter.all false
set_option maxRecDepth 100000
set_option autoImplicit false
namespace LB
open PySem PySem.Spec PyProof.Rows L2 TL
/-! # texts -/
/-- a number's text -/
def nt (n : Int) : Str := Str.ofString (toString n)
structure NumOk (n : Int) : Prop where
  nn : 0 ≤ n
  lt : n < 10 ^ 12
theorem nt_tl {n : Int} (h : 0 ≤ n) : tl (nt n) = numL n.toNat := by
  obtain ⟨k, rfl⟩ := Int.eq_ofNat_of_zero_le h
  exact tl_num k
theorem NumOk.len {n : Int} (h : NumOk n) : (tl (nt n)).length ≤ 12 := by
  rw [nt_tl h.nn]
  have h1 := h.nn
  have h2 := h.lt
  exact numL_len (by decide) (by omega)
theorem nt_pos {n : Int} (h : 0 ≤ n) : 1 ≤ (tl (nt n)).length := by
  rw [nt_tl h]
  exact List.length_pos_iff.mpr (numL_ne _)
theorem nt_free {n : Int} (h : 0 ≤ n) {s : Nat} (hs : s < 48 ∨ 57 < s) : s ∉ tl (nt n) := by
  rw [nt_tl h]
  exact numL_free hs
theorem head_num : ∀ n : Nat, 1 ≤ n → ∃ c t, numL n = c :: t ∧ c ≠ 48 := by
  intro n
  induction n using Nat.strongRecOn with
  | _ n ih =>
    intro h
    by_cases h9 : n < 10
    · exact ⟨48 + n, [], numL_lt h9, by omega⟩
    · obtain ⟨c, t, e, hc⟩ := ih (n / 10) (by omega) (by omega)
      exact ⟨c, t ++ [48 + n % 10], by rw [numL_step (by omega), e]; rfl, hc⟩
theorem len_str (s : Str) : s.length = (tl s).length := len_tl s
theorem digit_in {c : Nat} (h0 : 48 ≤ c) (h9 : c ≤ 57) (st : Sto) : vIn false (.str ⟨#[c]⟩) (.str "0123456789") st = .ok (.bl true) st := by
  have : c = 48 ∨ c = 49 ∨ c = 50 ∨ c = 51 ∨ c = 52 ∨ c = 53 ∨ c = 54 ∨ c = 55 ∨ c = 56 ∨ c = 57 := by omega
  have q : ∀ c : Nat, (Builtin.Str.occurrences ("0123456789" : Str) ⟨#[c]⟩ 0 ("0123456789" : Str).length 1).isEmpty = false → vIn false (.str ⟨#[c]⟩) (.str "0123456789") st = .ok (.bl true) st := fun c h => by
    unfold vIn
    have e : inD st (.str ⟨#[c]⟩) (.str "0123456789") = some true := by
      show some (!(Builtin.Str.occurrences ("0123456789" : Str) ⟨#[c]⟩ 0 ("0123456789" : Str).length 1).isEmpty) = some true
      rw [h]; rfl
    rw [e]; rfl
  rcases this with h | h | h | h | h | h | h | h | h | h <;> subst h <;> exact q _ (by decide +kernel)
theorem number_in_ok {n : Int} (h : NumOk n) (st : Sto) : m_number_in [.str (nt n)] st = .ok (.int n) st := by
  have h12 := h.len
  have h1 := nt_pos h.nn
  have hl : (nt n).length = (tl (nt n)).length := len_tl _
  have hsz : (nt n).length ≤ sizeLine := by rw [hl]; exact le_line (by omega)
  have i1 : (1 : Int) ≤ ((nt n).length : Int) := by omega
  have i12 : ((nt n).length : Int) ≤ 12 := by omega
  unfold m_number_in b_number_in
  have hcl : (nt n).cps.toList.length ≤ sizeLine := by have : (nt n).cps.toList = tl (nt n) := rfl; rw [this]; exact le_line (by omega)
  have hcs : (nt n).cps.size ≤ sizeLine := by rw [← Array.length_toList]; exact hcl
  simp [envOf, hsz, i1, i12, hcs]
  rw [compM_map (fun _ => .bl true)]
  · simp [x_all_true, hsz]
    have e : tl (nt n) = numL n.toNat := nt_tl h.nn
    have hint : PySem.intText? (nt n) = some n := by
      obtain ⟨k, rfl⟩ := Int.eq_ofNat_of_zero_le h.nn
      exact int_num (by have := h.len; rw [nt_tl h.nn] at this; simpa using Nat.le_trans this (by decide))
    have hv : vIntS (.str (nt n)) st = .ok (.int n) st := by
      have : (nt n).length ≤ 640 := by omega
      simp [vIntS, hint, this]
    by_cases hz : n = 0
    · subst hz
      have e0 : nt 0 = ("0" : Str) := by decide +kernel
      have e1 : L2.atI (nt 0).cps.toList 0 = some 48 := by decide +kernel
      have e1' : L2.atI ("0" : Str).cps.toList 0 = some 48 := by decide +kernel
      rw [e0] at hv hsz ⊢
      have e2 : (⟨#[48]⟩ : Str) = ("0" : Str) := by decide +kernel
      simp [e1', hv, hsz, e2]
    · have := h.nn
      obtain ⟨c, t, ec, hc⟩ := head_num n.toNat (by omega)
      have e1 : L2.atI (nt n).cps.toList 0 = some c := by
        have : (nt n).cps.toList = c :: t := by rw [← ec, ← e]
        rw [this]; simp
      have e2 : (⟨#[c]⟩ : Str) ≠ ("0" : Str) := fun q => by
        have := congrArg tl q
        rw [show tl ("0" : Str) = [48] by decide +kernel] at this
        have h3 : [c] = [48] := this
        simp at h3
        exact hc h3
      simp [e1, e2, hv]
  · intro c hc
    have hd : c ∈ tl (nt n) := hc
    rw [nt_tl h.nn] at hd
    have := numL_digits n.toNat c hd
    simp [digit_in this.1 this.2]
theorem joinL_len (S : List Nat) (k : Nat) : ∀ ps : List (List Nat), (∀ p ∈ ps, p.length ≤ k) → (joinL S ps).length ≤ ps.length * (k + S.length)
  | [], _ => by simp [joinL]
  | [p], h => by
    have := h p (by simp)
    simp [joinL]; omega
  | p :: q :: r, h => by
    have h1 := h p (by simp)
    have h2 := joinL_len S k (q :: r) fun x hx => h x (List.mem_cons_of_mem _ hx)
    show (p ++ (S ++ joinL S (q :: r))).length ≤ _
    rw [List.length_append, List.length_append, List.length_cons, Nat.add_mul]
    omega
theorem tl_joinT (y : Str) (ps : List Str) : tl (Txt.join y ps) = joinL (tl y) (ps.map tl) := by rw [join_eq, tl_join]
/-- numbers with commas -/
def numsT (ns : List Int) : Str := Txt.join "," (ns.map nt)
theorem tl_comma : tl ("," : Str) = [44] := by decide +kernel
theorem tl_space : tl (" " : Str) = [32] := by decide +kernel
theorem tl_nl : tl ("\n" : Str) = [10] := by decide +kernel
theorem tl_empty : tl ("" : Str) = [] := by decide +kernel
theorem tl_emptyS : tl Str.empty = [] := rfl
theorem tl_car : tl ("car" : Str) = [99, 97, 114] := by decide +kernel
theorem tl_carS : tl ("car " : Str) = [99, 97, 114, 32] := by decide +kernel
theorem numsT_len {ns : List Int} (h : ∀ n ∈ ns, NumOk n) : (tl (numsT ns)).length ≤ ns.length * 13 := by
  unfold numsT
  rw [tl_joinT, tl_comma]
  have := joinL_len [44] 12 ((ns.map nt).map tl) fun p hp => by
    rw [List.map_map] at hp
    obtain ⟨n, hn, rfl⟩ := List.mem_map.mp hp
    exact (h n hn).len
  simpa using this
theorem joinL_pos (S : List Nat) {p : List Nat} {ps : List (List Nat)} (h : p ≠ []) : joinL S (p :: ps) ≠ [] := by
  cases ps with
  | nil => exact h
  | cons q r =>
    show p ++ _ ≠ []
    intro e
    exact h (List.append_eq_nil_iff.mp e).1
theorem numsT_pos {ns : List Int} (hn : ns ≠ []) (h : ∀ n ∈ ns, NumOk n) : 1 ≤ (tl (numsT ns)).length := by
  unfold numsT
  rw [tl_joinT]
  cases ns with
  | nil => exact absurd rfl hn
  | cons a t =>
    refine List.length_pos_iff.mpr (joinL_pos _ ?_)
    have := nt_pos (h a (by simp)).nn
    intro e; rw [e] at this; simp at this
theorem joinL_mem (S : List Nat) : ∀ (ps : List (List Nat)) (c : Nat), c ∈ joinL S ps → c ∈ S ∨ ∃ p ∈ ps, c ∈ p
  | [], _, h => by simp [joinL] at h
  | [p], c, h => .inr ⟨p, by simp, h⟩
  | p :: q :: r, c, h => by
    have h : c ∈ p ++ (S ++ joinL S (q :: r)) := h
    rcases List.mem_append.mp h with h | h
    · exact .inr ⟨p, by simp, h⟩
    · rcases List.mem_append.mp h with h | h
      · exact .inl h
      · rcases joinL_mem S (q :: r) c h with h | ⟨x, hx, hc⟩
        · exact .inl h
        · exact .inr ⟨x, List.mem_cons_of_mem _ hx, hc⟩
theorem numsT_free {ns : List Int} (h : ∀ n ∈ ns, NumOk n) {s : Nat} (hs : s < 44) : s ∉ tl (numsT ns) := fun hm => by
  unfold numsT at hm
  rw [tl_joinT, tl_comma] at hm
  rcases joinL_mem _ _ _ hm with q | ⟨p, hp, hc⟩
  · simp at q; omega
  · rw [List.map_map] at hp
    obtain ⟨n, hn, rfl⟩ := List.mem_map.mp hp
    exact nt_free (h n hn).nn (by omega) hc
theorem str_int (i : Int) (h : NumOk i) (st : Sto) : vStr (.int i) st = .ok (.str (nt i)) st := by
  have h2 : i.natAbs.log2 < 1920 := by
    have h1 := h.nn
    have h3 := h.lt
    exact Nat.lt_of_lt_of_le (PySem.Flt.log2_lt_of (show 0 < 40 by decide) (show i.natAbs < 2 ^ 40 by omega)) (by decide)
  unfold vStr
  simp only [h2, if_true]; rfl
theorem fmt_int (i : Int) (h : NumOk i) (st : Sto) : vFmt (.int i) st = .ok (.str (nt i)) st := by
  have h2 : i.natAbs.log2 < 1920 := by
    have h1 := h.nn
    have h3 := h.lt
    exact Nat.lt_of_lt_of_le (PySem.Flt.log2_lt_of (show 0 < 40 by decide) (show i.natAbs < 2 ^ 40 by omega)) (by decide)
  unfold vFmt
  simp only [h2, if_true]; rfl
theorem fmt_str (s : Str) (h : s.length ≤ 1000) (st : Sto) : vFmt (.str s) st = .ok (.str s) st := by
  unfold vFmt
  simp only [le_line h, if_true]
theorem join_lst {a : Str} {ys : List Str} (h : (ys.map (·.length)).sum + ys.length * a.length ≤ 16777216) (st : Sto) : mJoin (.str a) [.lst (ys.map .str)] st = .ok (.str (Txt.join a ys)) st := by
  unfold mJoin
  simp only [seqOf, strsOf_map, h, if_true]
theorem sum_le {α : Type} (f : α → Nat) (k : Nat) : ∀ xs : List α, (∀ x ∈ xs, f x ≤ k) → (xs.map f).sum ≤ xs.length * k
  | [], _ => by simp
  | x :: xs, h => by
    have h1 := h x (by simp)
    have h2 := sum_le f k xs fun y hy => h y (List.mem_cons_of_mem _ hy)
    rw [List.map_cons, List.sum_cons, List.length_cons, Nat.add_mul]
    omega
theorem numbers_text_ok {ns : List Int} (hn : ns ≠ []) (hl : ns.length ≤ 1000) (h : ∀ n ∈ ns, NumOk n) (st : Sto) : m_numbers_text [.tup (ns.map .int)] st = .ok (.str (numsT ns)) st := by
  unfold m_numbers_text b_numbers_text
  simp [envOf, isT, le_line hl]
  rw [compM_map (fun n => .str (nt n))]
  · have hj : mJoin (.str ",") [.lst (ns.map fun n => .str (nt n))] st = .ok (.str (numsT ns)) st := by
      have := join_lst (a := ",") (ys := ns.map nt) (by
        have h1 := sum_le (fun s : Str => s.length) 12 (ns.map nt) (fun x hx => by
          obtain ⟨n, hn, rfl⟩ := List.mem_map.mp hx
          rw [len_str]; exact (h n hn).len)
        have h2 : ("," : Str).length = 1 := by decide +kernel
        rw [h2]
        simp at h1 ⊢
        omega) st
      rw [List.map_map] at this
      exact this
    have hpos := numsT_pos hn h
    have hlen := numsT_len h
    have e1 : (numsT ns).length ≤ sizeLine := by
      rw [len_str]
      have : sizeLine = 16777216 := rfl
      omega
    have e2 : (((numsT ns).length : Int) != 0) = true := by
      rw [len_str]
      have : ((tl (numsT ns)).length : Int) ≠ 0 := by omega
      simp only [bne_iff_ne, ne_eq]
      exact this
    simp [hj, truthD, e1, e2]
  · intro n hn
    simp [str_int n (h n hn)]
theorem joinL_nil : ∀ ps : List (List Nat), joinL [] ps = ps.flatten
  | [] => rfl
  | [p] => by simp [joinL]
  | p :: q :: r => by
    show p ++ ([] ++ joinL [] (q :: r)) = _
    rw [joinL_nil (q :: r)]; simp
theorem joinL_nl : ∀ ps : List (List Nat), ps ≠ [] → joinL [10] ps ++ [10] = (ps.map (· ++ [10])).flatten
  | [], h => absurd rfl h
  | [p], _ => by simp [joinL]
  | p :: q :: r, _ => by
    have ih := joinL_nl (q :: r) (by simp)
    show (p ++ ([10] ++ joinL [10] (q :: r))) ++ [10] = _
    rw [List.map_cons, List.flatten_cons, ← ih]
    simp
theorem lines_eq {ls : List Str} (h : ls ≠ []) : Txt.join "" (ls.map fun l => l ++ "\n") = Txt.join "\n" ls ++ "\n" := by
  apply ext_tl
  rw [tl_append, tl_joinT, tl_joinT, tl_empty, tl_nl, joinL_nil, joinL_nl _ (by simpa using h)]
  rw [List.map_map, List.map_map]
  congr 1
  apply List.map_congr_left
  intro l _
  simp [tl_append, tl_nl]
theorem cut_last {t x : Str} (hx : (tl x).length = 1) : cutS (t ++ x) (some (-1)) none = x ∧ cutS (t ++ x) none (some (-1)) = t := by
  have hl : (t ++ x).length = (tl t).length + 1 := by rw [len_str, tl_append, List.length_append, hx]
  have e1 : ∀ d, HT.sIx (t ++ x).length d (some (-1)) = (tl t).length := fun d => by
    unfold HT.sIx
    simp only
    rw [if_pos (by decide), hl]
    omega
  have e2 : (t ++ x).cps.toList = tl t ++ tl x := tl_append t x
  constructor
  · apply ext_tl
    unfold cutS
    rw [tl_mk, e1, e2, HT.sIx_none, hl]
    simp [List.take_of_length_le, hx]
  · apply ext_tl
    unfold cutS
    rw [tl_mk, e1, e2, HT.sIx_none]
    simp
@[simp] theorem x_sl_str (s : Str) (lo hi : Option Int) (st : Sto) : vSl (.str s) lo hi st = if s.length ≤ sizeLine then .ok (.str (cutS s lo hi)) st else .stuck := rfl
theorem split_ok {a b : Str} (hb : (b.length == 0) = false) (ha : a.length + 2 ≤ sizeLine) (st : Sto) : mSplit (.str a) [.str b] st = .ok (.lst ((Txt.split a b).map .str)) st := by
  unfold mSplit
  simp only [hb, ha, and_self, if_true]
theorem isTstr (s : Str) (st : Sto) : isT "str" st (.str s) = true := rfl
theorem numbers_in_ok {ns : List Int} (hl : ns.length ≤ 1000) (h : ∀ n ∈ ns, NumOk n) (st : Sto) : m_numbers_in [.lst (ns.map fun n => .str (nt n))] st = .ok (.tup (ns.map .int)) st := by
  unfold m_numbers_in b_numbers_in
  simp [envOf, le_line hl]
  rw [compM_map (fun n => .int n)]
  · have hi : vIn false .non (.lst (ns.map fun n => .int n)) st = .ok (.bl false) st := by
      have e : inD st .non (.lst (ns.map .int)) = some false := by
        show (if _ then _ else _) = _
        rw [if_pos ⟨rfl, flat_ints ns⟩]
        congr 1
        show (((ns.map D.int).map toV).any fun y => eqV y (toV .non)) = false
        rw [List.any_eq_false]
        intro x hx
        rw [List.map_map] at hx
        obtain ⟨n, _, rfl⟩ := List.mem_map.mp hx
        simp [toV, scalV, eqV]
      unfold vIn
      rw [show (fun n => D.int n) = D.int from rfl, e]; rfl
    simp [hi]
  · intro n hn
    simp [number_in_ok (h n hn)]
theorem roads_in_ok {ns : List Int} (hn : ns ≠ []) (hl : ns.length ≤ 1000) (h : ∀ n ∈ ns, NumOk n) (st : Sto) : m_roads_in [.str (numsT ns)] st = .ok (.tup (ns.map .int)) st := by
  have hlen := numsT_len h
  have hsz : sizeLine = 16777216 := rfl
  have sp := split_ok (b := ",") (by decide +kernel) (show (numsT ns).length + 2 ≤ sizeLine by rw [len_str]; omega) st
  have sj : Txt.split (numsT ns) "," = ns.map nt := split_join (s := 44) (S := []) tl_comma (by decide +kernel) (by simpa using hn) (fun p hp => by
    obtain ⟨n, hn, rfl⟩ := List.mem_map.mp hp
    exact nt_free (h n hn).nn (by omega))
  rw [sj, List.map_map] at sp
  have sp : mSplit (.str (numsT ns)) [.str ","] st = .ok (.lst (ns.map fun n => .str (nt n))) st := sp
  unfold m_roads_in b_roads_in
  simp [envOf, isTstr, sp, numbers_in_ok hl h]
end LB
/- ===== PTownText ===== -/
set_option Elab.async false
set_option linter.all false
set_option maxRecDepth 100000
set_option autoImplicit false
namespace LB
open PySem PySem.Spec PyProof.Rows L2 TL
/-! # texts of towns -/
/-- numbers with commas, - where there are none -/
def dashT (ns : List Int) : Str := if ns = [] then "-" else numsT ns
def rowT (r : Row) : Str := nt r.1 ++ ":" ++ dashT r.2
def townW (t : Town) : List Str := ["town", nt t.many, nt t.circle]
def roadW (r : Road) : List Str := ["road", nt r.1, nt r.2.1, nt r.2.2]
def lightW (c : Int) (p : Int × List Row) : List Str := (["lights", nt c, nt p.1] : List Str) ++ p.2.map rowT
/-- the crossings with lights -/
def lits (ls : List Light) : List (Nat × (Int × List Row)) := ls.zipIdx.filterMap fun p => p.1.map fun q => (p.2, q)
def lightWs (ls : List Light) : List (List Str) := (lits ls).map fun q => lightW (q.1 : Nat) q.2
def townWs (t : Town) : List (List Str) := townW t :: (t.roads.map roadW ++ lightWs t.lights)
def spaced (ws : List Str) : Str := Txt.join " " ws
def townTx (t : Town) : Str := Txt.join "" ((townWs t).map fun ws => spaced ws ++ "\n")
/-- the numbers in the town are no greater than texts can tell -/
structure TextTown (t : Town) : Prop where
  many : NumOk t.many
  circle : NumOk t.circle
  roads : ∀ r ∈ t.roads, NumOk r.1 ∧ NumOk r.2.1 ∧ NumOk r.2.2
  lights : ∀ l ∈ t.lights, ∀ p, l = some p → NumOk p.1 ∧ 1 ≤ p.2.length ∧ p.2.length ≤ 4 ∧ ∀ r ∈ p.2, NumOk r.1 ∧ r.2.length ≤ 10 ∧ ∀ n ∈ r.2, NumOk n
  few : t.roads.length ≤ 10
  fewl : t.lights.length ≤ 6
theorem tl_colon : tl (":" : Str) = [58] := by decide +kernel
theorem tl_dash : tl ("-" : Str) = [45] := by decide +kernel
theorem dash_len {ns : List Int} (hl : ns.length ≤ 10) (h : ∀ n ∈ ns, NumOk n) : (tl (dashT ns)).length ≤ 130 := by
  unfold dashT
  split
  · rw [tl_dash]; decide
  · have := numsT_len h
    omega
theorem dash_ok {ns : List Int} (hl : ns.length ≤ 10) (h : ∀ n ∈ ns, NumOk n) (st : Sto) : m_numbers_text [.tup (ns.map .int)] st = .ok (.str (dashT ns)) st := by
  by_cases hn : ns = []
  · subst hn
    unfold m_numbers_text b_numbers_text
    simp [envOf, isT]
    have e : compM ⟨[], []⟩ (gNm 1) bYes (cBlt (f1 vStr) (aCons (cVar 1) aNil)) [] [some (D.tup []), none] st = .ok [] st := by rw [compM, if_pos gd_nil]
    have hj : mJoin (.str ",") [.lst []] st = .ok (.str "") st := by
      have := join_lst (a := ",") (ys := []) (by decide) st
      exact this
    have e1 : truthD st (.str "") = some false := by
      have h0 : ("" : Str).length = 0 := by decide +kernel
      simp [truthD, h0]
    simp [e, hj, e1, dashT]
  · rw [numbers_text_ok hn (by omega) h]
    unfold dashT
    rw [if_neg hn]
theorem dash_free {ns : List Int} (h : ∀ n ∈ ns, NumOk n) {s : Nat} (hs : s < 44 ∨ s = 58) : s ∉ tl (dashT ns) := by
  unfold dashT
  split
  · rw [tl_dash]
    simp; omega
  · rcases hs with hs | hs
    · exact numsT_free h hs
    · subst hs
      intro hm
      unfold numsT at hm
      rw [tl_joinT, tl_comma] at hm
      rcases joinL_mem _ _ _ hm with q | ⟨p, hp, hc⟩
      · simp at q
      · rw [List.map_map] at hp
        obtain ⟨n, hn, rfl⟩ := List.mem_map.mp hp
        exact nt_free (h n hn).nn (by omega) hc
theorem dash_eq {ns : List Int} (h : ∀ n ∈ ns, NumOk n) : (dashT ns = ("-" : Str)) ↔ ns = [] := by
  unfold dashT
  split
  · simp [*]
  · rename_i hn
    constructor
    · intro e
      exfalso
      have e2 := congrArg tl e
      rw [tl_dash] at e2
      have : 45 ∈ tl (numsT ns) := by rw [e2]; simp
      unfold numsT at this
      rw [tl_joinT, tl_comma] at this
      rcases joinL_mem _ _ _ this with q | ⟨p, hp, hc⟩
      · simp at q
      · rw [List.map_map] at hp
        obtain ⟨n, hn, rfl⟩ := List.mem_map.mp hp
        exact nt_free (h n hn).nn (s := 45) (by omega) hc
    · intro e; exact absurd e hn
structure RowTx (r : Row) : Prop where
  b : NumOk r.1
  few : r.2.length ≤ 10
  g : ∀ n ∈ r.2, NumOk n
theorem rowT_len {r : Row} (h : RowTx r) : (tl (rowT r)).length ≤ 143 := by
  unfold rowT
  have h1 := h.b.len
  have h2 := dash_len h.few h.g
  simp only [tl_append, tl_colon, List.length_append, List.length_cons, List.length_nil]
  omega
theorem rowT_free {r : Row} (h : RowTx r) {s : Nat} (hs : s < 44) : s ∉ tl (rowT r) := by
  unfold rowT
  simp only [tl_append, tl_colon, List.mem_append, List.mem_singleton]
  have h1 := nt_free h.b.nn (s := s) (by omega)
  have h2 := dash_free h.g (s := s) (.inl hs)
  simp [h1, h2]; omega
/-- a row, read -/
theorem turn_in_ok {r : Row} (h : RowTx r) (st : Sto) : m_turn_in [.str (rowT r)] st = .ok (rowD r) st := by
  have hsz : sizeLine = 16777216 := rfl
  have hl := rowT_len h
  have hp : mPart (.str (rowT r)) [.str ":"] st = .ok (.tup [.str (nt r.1), .str ":", .str (dashT r.2)]) st := by
    unfold mPart
    have c1 : ((":" : Str).length == 0) = false := by decide +kernel
    have c2 : (rowT r).length ≤ sizeLine := by rw [len_str]; omega
    simp only [c1, c2, and_self, if_true]
    have := partition_app (y := ":") (s := 58) (S := []) tl_colon (a := nt r.1) (b := dashT r.2) (nt_free h.b.nn (by omega))
    unfold rowT
    rw [this]
  unfold m_turn_in b_turn_in
  have e2 : ((":" : Str) = "") = False := by
    simp only [eq_iff_iff, iff_false]
    intro e
    have := congrArg tl e
    rw [tl_colon, tl_empty] at this
    cases this
  have nn : ∀ ds, vIsN false (.tup ds) st = .ok (.bl false) st := fun ds => rfl
  have ni : ∀ i, vIsN false (.int i) st = .ok (.bl false) st := fun ds => rfl
  by_cases hn : r.2 = []
  · have ed : dashT [] = ("-" : Str) := rfl
    simp [envOf, isTstr, hp, ed, number_in_ok h.b, e2, rowD, hn]
  · have ed : ¬ dashT r.2 = ("-" : Str) := fun e => hn ((dash_eq h.g).mp e)
    have ed2 : dashT r.2 = numsT r.2 := by unfold dashT; rw [if_neg hn]
    have hr := roads_in_ok hn (show r.2.length ≤ 1000 by have := h.few; omega) h.g st
    rw [ed2] at ed hp
    simp [envOf, isTstr, hp, ed, number_in_ok h.b, hr, e2, rowD]
/-- joined words, split -/
theorem spaced_len {ws : List Str} (h : ∀ w ∈ ws, (tl w).length ≤ 143) : (tl (spaced ws)).length ≤ ws.length * 144 := by
  unfold spaced
  rw [tl_joinT, tl_space]
  have := joinL_len [32] 143 (ws.map tl) fun p hp => by
    obtain ⟨w, hw, rfl⟩ := List.mem_map.mp hp
    exact h w hw
  simpa using this
theorem spaced_split {ws : List Str} (hn : ws ≠ []) (hl : ws.length ≤ 10) (h : ∀ w ∈ ws, (tl w).length ≤ 143 ∧ 32 ∉ tl w) (st : Sto) : mSplit (.str (spaced ws)) [.str " "] st = .ok (.lst (ws.map .str)) st := by
  have hz := spaced_len fun w hw => (h w hw).1
  rw [split_ok (by decide +kernel) (by rw [len_str]; have : sizeLine = 16777216 := rfl; omega)]
  unfold spaced
  rw [split_join (s := 32) (S := []) tl_space (by decide +kernel) hn fun p hp => (h p hp).2]
/-- what a line's words are -/
structure WordsOk (ws : List Str) : Prop where
  ne : ws ≠ []
  few : ws.length ≤ 10
  w : ∀ w ∈ ws, (tl w).length ≤ 143 ∧ 32 ∉ tl w ∧ 10 ∉ tl w
theorem WordsOk.free {ws : List Str} (h : WordsOk ws) : 10 ∉ tl (spaced ws) := by
  unfold spaced
  rw [tl_joinT, tl_space]
  intro hm
  rcases joinL_mem _ _ _ hm with q | ⟨p, hp, hc⟩
  · simp at q
  · obtain ⟨w, hw, rfl⟩ := List.mem_map.mp hp
    exact (h.w w hw).2.2 hc
theorem num_word {n : Int} (h : NumOk n) : (tl (nt n)).length ≤ 143 ∧ 32 ∉ tl (nt n) ∧ 10 ∉ tl (nt n) := ⟨by have := h.len; omega, nt_free h.nn (by omega), nt_free h.nn (by omega)⟩
theorem townW_ok {t : Town} (h : TextTown t) : WordsOk (townW t) := by
  refine ⟨by simp [townW], by simp [townW], fun w hw => ?_⟩
  simp only [townW, List.mem_cons, List.not_mem_nil, or_false] at hw
  rcases hw with e | e | e <;> subst e
  · decide +kernel
  · exact num_word h.many
  · exact num_word h.circle
theorem roadW_ok {r : Road} (h : NumOk r.1 ∧ NumOk r.2.1 ∧ NumOk r.2.2) : WordsOk (roadW r) := by
  refine ⟨by simp [roadW], by simp [roadW], fun w hw => ?_⟩
  simp only [roadW, List.mem_cons, List.not_mem_nil, or_false] at hw
  rcases hw with e | e | e | e <;> subst e
  · decide +kernel
  · exact num_word h.1
  · exact num_word h.2.1
  · exact num_word h.2.2
structure LightTx (p : Int × List Row) : Prop where
  s : NumOk p.1
  one : 1 ≤ p.2.length
  four : p.2.length ≤ 4
  rows : ∀ r ∈ p.2, RowTx r
theorem lightW_ok {c : Int} {p : Int × List Row} (hc : NumOk c) (h : LightTx p) : WordsOk (lightW c p) := by
  have h4 := h.four
  refine ⟨by simp [lightW], by simp [lightW]; omega, fun w hw => ?_⟩
  simp only [lightW, List.cons_append, List.nil_append, List.mem_cons] at hw
  rcases hw with e | e | e | hw
  · subst e; decide +kernel
  · subst e; exact num_word hc
  · subst e; exact num_word h.s
  · obtain ⟨r, hr, rfl⟩ := List.mem_map.mp hw
    exact ⟨rowT_len (h.rows r hr), rowT_free (h.rows r hr) (by omega), rowT_free (h.rows r hr) (by omega)⟩
theorem lits_map {β : Type} (F : Nat → Int × List Row → β) (xs : List (Light × Nat)) : (xs.filter fun p => p.1.isSome).map (fun p => F p.2 (p.1.getD (0, []))) = (xs.filterMap fun p => p.1.map fun q => (p.2, q)).map fun q => F q.1 q.2 := by
  induction xs with
  | nil => rfl
  | cons x t ih =>
    obtain ⟨l, i⟩ := x
    cases l with
    | none => simpa using ih
    | some p => simpa using ih
theorem lits_mem {ls : List Light} {q : Nat × (Int × List Row)} (h : q ∈ lits ls) : ls[q.1]? = some (some q.2) := by
  unfold lits at h
  obtain ⟨⟨l, i⟩, hm, e⟩ := List.mem_filterMap.mp h
  cases l with
  | none => cases e
  | some p =>
    cases e
    have := List.mem_zipIdx hm
    have hi : i < ls.length := by omega
    show ls[i]? = some (some p)
    rw [List.getElem?_eq_getElem hi]
    exact congrArg some (by simpa using this.2.2.symm)
theorem TextTown.lit {t : Town} (h : TextTown t) {q : Nat × (Int × List Row)} (hq : q ∈ lits t.lights) : NumOk (q.1 : Nat) ∧ LightTx q.2 := by
  have e := lits_mem hq
  have hl : q.1 < t.lights.length := (List.getElem?_eq_some_iff.mp e).1
  have h6 := h.fewl
  obtain ⟨h1, h2, h3, h4⟩ := h.lights _ (List.mem_of_getElem? e) q.2 rfl
  exact ⟨⟨Int.natCast_nonneg _, by omega⟩, h1, h2, h3, fun r hr => ⟨(h4 r hr).1, (h4 r hr).2.1, (h4 r hr).2.2⟩⟩
theorem row_fmt (r : Row) : Str.empty ++ nt r.1 ++ ":" ++ dashT r.2 = rowT r := by
  apply ext_tl
  unfold rowT
  simp only [tl_append, tl_emptyS, List.nil_append, List.append_assoc]
theorem join_words {ws : List Str} (hl : ws.length ≤ 100) (h : ∀ w ∈ ws, (tl w).length ≤ 143) (st : Sto) : mJoin (.str " ") [.lst (ws.map .str)] st = .ok (.str (spaced ws)) st := by
  refine join_lst ?_ st
  have h1 := sum_le (fun s : Str => s.length) 143 ws fun x hx => by rw [len_str]; exact h x hx
  have h2 : (" " : Str).length = 1 := by decide +kernel
  rw [h2]
  omega
theorem lights_text_ok {c : Int} {p : Int × List Row} (hc : NumOk c) (h : LightTx p) (st : Sto) : m_lights_text [.int c, lightD (some p)] st = .ok (.str (spaced (lightW c p))) st := by
  obtain ⟨s, rows⟩ := p
  have h4 : rows.length ≤ 4 := h.four
  have hsz : sizeLine = 16777216 := rfl
  unfold m_lights_text b_lights_text lightD
  simp [envOf, le_line (show rows.length ≤ 1000 by omega)]
  rw [compM_map (fun r => .str (rowT r))]
  · have hw := lightW_ok hc h
    have hj := join_words (show (lightW c (s, rows)).length ≤ 100 by have := hw.few; omega) (fun w hw' => (hw.w w hw').1) st
    have hz : 3 + rows.length ≤ sizeLine := by omega
    have e : (lightW c (s, rows)).map D.str = D.str "lights" :: D.str (nt c) :: D.str (nt s) :: rows.map fun r => D.str (rowT r) := by
      simp [lightW]
    rw [e] at hj
    have hz2 : rows.length + 1 + 1 + 1 ≤ sizeLine := by omega
    have hz3 : 1 + 1 + 1 + rows.length ≤ sizeLine := by omega
    simp [isTstr, str_int c hc, str_int s h.s, hz, hz2, hz3, hj]
  · intro r hr
    have R := h.rows r hr
    have b1 := R.b.len
    have b2 := dash_len R.few R.g
    have l1 : (Str.empty ++ nt r.1).length ≤ sizeLine := by rw [len_str, tl_append, tl_emptyS]; simp only [List.length_append, List.length_cons, List.length_nil]; omega
    have l2 : (Str.empty ++ nt r.1 ++ ":").length ≤ sizeLine := by rw [len_str, tl_append, tl_append, tl_emptyS, tl_colon]; simp only [List.length_append, List.length_cons, List.length_nil]; omega
    have l3 : (Str.empty ++ nt r.1 ++ ":" ++ dashT r.2).length ≤ sizeLine := by rw [len_str, tl_append, tl_append, tl_append, tl_emptyS, tl_colon]; simp only [List.length_append, List.length_cons, List.length_nil]; omega
    have fs : vFmt (.str (dashT r.2)) st = .ok (.str (dashT r.2)) st := fmt_str _ (by rw [len_str]; omega) st
    simp [rowD, fmt_int r.1 R.b, dash_ok R.few R.g, fs, l1, l2, l3]
    exact row_fmt r
theorem town_words {t : Town} (h : TextTown t) : ∀ ws ∈ townWs t, WordsOk ws := fun ws hw => by
  unfold townWs at hw
  rcases List.mem_cons.mp hw with e | hw
  · subst e; exact townW_ok h
  · rcases List.mem_append.mp hw with hw | hw
    · obtain ⟨r, hr, rfl⟩ := List.mem_map.mp hw
      exact roadW_ok (h.roads r hr)
    · obtain ⟨q, hq, rfl⟩ := List.mem_map.mp hw
      exact lightW_ok (h.lit hq).1 (h.lit hq).2
theorem lits_len (ls : List Light) : (lits ls).length ≤ ls.length := by
  unfold lits
  refine Nat.le_trans (List.length_filterMap_le _ _) ?_
  simp
theorem townWs_len {t : Town} (h : TextTown t) : (townWs t).length ≤ 17 := by
  unfold townWs lightWs
  have h1 := h.few
  have h2 := h.fewl
  have h3 := lits_len t.lights
  simp only [List.length_cons, List.length_append, List.length_map]
  omega
theorem line_len {ws : List Str} (h : WordsOk ws) : (tl (spaced ws)).length ≤ 1440 := by
  have h1 := spaced_len fun w hw => (h.w w hw).1
  have h2 := h.few
  omega
theorem join_nl {ls : List Str} (hl : ls.length ≤ 1000) (h : ∀ l ∈ ls, (tl l).length ≤ 1440) (st : Sto) : mJoin (.str "") [.lst (ls.map fun l => .str (l ++ "\n"))] st = .ok (.str (Txt.join "" (ls.map fun l => l ++ "\n"))) st := by
  have hj := join_lst (a := "") (ys := ls.map fun l => l ++ "\n") (by
    have h1 := sum_le (fun s : Str => s.length) 1441 (ls.map fun l => l ++ "\n") (fun x hx => by
      obtain ⟨l, hm, rfl⟩ := List.mem_map.mp hx
      have := h l hm
      rw [len_str, tl_append, tl_nl, List.length_append, List.length_singleton]
      omega)
    have h2 : ("" : Str).length = 0 := by decide +kernel
    rw [h2]
    simp only [List.length_map] at h1 ⊢
    omega) st
  rw [List.map_map] at hj
  exact hj
theorem tl_town : tl ("town" : Str) = [116, 111, 119, 110] := by decide +kernel
theorem tl_townS : tl ("town " : Str) = [116, 111, 119, 110, 32] := by decide +kernel
theorem tl_road : tl ("road" : Str) = [114, 111, 97, 100] := by decide +kernel
theorem tl_roadS : tl ("road " : Str) = [114, 111, 97, 100, 32] := by decide +kernel
theorem tl_lights : tl ("lights" : Str) = [108, 105, 103, 104, 116, 115] := by decide +kernel
theorem tl_lightsS : tl ("lights " : Str) = [108, 105, 103, 104, 116, 115, 32] := by decide +kernel
theorem town_fmt (t : Town) : Str.empty ++ "town " ++ nt t.many ++ " " ++ nt t.circle = spaced (townW t) := by
  apply ext_tl
  unfold spaced townW
  rw [tl_joinT, tl_space]
  show _ = tl ("town" : Str) ++ ([32] ++ (tl (nt t.many) ++ ([32] ++ tl (nt t.circle))))
  simp only [tl_append, tl_emptyS, tl_space, tl_town, tl_townS, List.nil_append, List.append_assoc, List.cons_append]
theorem road_fmt (r : Road) : Str.empty ++ "road " ++ nt r.1 ++ " " ++ nt r.2.1 ++ " " ++ nt r.2.2 = spaced (roadW r) := by
  apply ext_tl
  unfold spaced roadW
  rw [tl_joinT, tl_space]
  show _ = tl ("road" : Str) ++ ([32] ++ (tl (nt r.1) ++ ([32] ++ (tl (nt r.2.1) ++ ([32] ++ tl (nt r.2.2))))))
  simp only [tl_append, tl_emptyS, tl_space, tl_road, tl_roadS, List.nil_append, List.append_assoc, List.cons_append]
theorem town_by_ok {t : Town} (h : TextTown t) (st : Sto) : m_town_by [townD t] st = .ok (.str (townTx t)) st := by
  have hsz : sizeLine = 16777216 := rfl
  have h10 := h.few
  have h6 := h.fewl
  have m1 := h.many.len
  have m2 := h.circle.len
  have l1 : (Str.empty ++ ("town " : Str)).length ≤ sizeLine := by rw [len_str, tl_append, tl_townS, tl_emptyS]; simp only [List.length_append, List.length_cons, List.length_nil]; omega
  have l2 : (Str.empty ++ ("town " : Str) ++ nt t.many).length ≤ sizeLine := by rw [len_str, tl_append, tl_append, tl_townS, tl_emptyS]; simp only [List.length_append, List.length_cons, List.length_nil]; omega
  have l3 : (Str.empty ++ ("town " : Str) ++ nt t.many ++ " ").length ≤ sizeLine := by rw [len_str, tl_append, tl_append, tl_append, tl_townS, tl_emptyS, tl_space]; simp only [List.length_append, List.length_cons, List.length_nil]; omega
  have l4 : (Str.empty ++ ("town " : Str) ++ nt t.many ++ " " ++ nt t.circle).length ≤ sizeLine := by rw [len_str, tl_append, tl_append, tl_append, tl_append, tl_townS, tl_emptyS, tl_space]; simp only [List.length_append, List.length_cons, List.length_nil]; omega
  unfold m_town_by b_town_by townD
  refine (?_ : _ = _)
  simp [envOf, fmt_int _ h.many, fmt_int _ h.circle, l1, l2, l3, l4, le_line (show t.roads.length ≤ 1000 by omega)]
  rw [compM_map (fun r => .str (spaced (roadW r)))]
  · have hz : 1 + t.roads.length ≤ sizeLine := by omega
    have hz2 : t.roads.length + 1 ≤ sizeLine := by omega
    simp [hz, hz2, pairs_map, le_line (show t.lights.length ≤ 1000 by omega), -x_isN]
    rw [compM_pure (fun q => q.1.isSome) (fun q => .str (spaced (lightW (q.2 : Nat) (q.1.getD (0, [])))))]
    · have el : (t.lights.zipIdx.filter fun q => q.1.isSome).map (fun q => D.str (spaced (lightW (q.2 : Nat) (q.1.getD (0, []))))) = (lightWs t.lights).map fun ws => D.str (spaced ws) := by
        rw [lits_map (fun i p => D.str (spaced (lightW (i : Nat) p)))]
        unfold lightWs lits
        rw [List.map_map]; rfl
      rw [el]
      have e0 : D.str (Str.empty ++ Str.ofString "town " ++ nt t.many ++ Str.ofString " " ++ nt t.circle) = D.str (spaced (townW t)) := congrArg D.str (town_fmt t)
      rw [e0]
      have hlen := townWs_len h
      have eall : D.str (spaced (townW t)) :: (t.roads.map (fun r => D.str (spaced (roadW r)))) ++ (lightWs t.lights).map (fun ws => D.str (spaced ws)) = (townWs t).map fun ws => D.str (spaced ws) := by
        unfold townWs
        simp
      have hzz : t.roads.length + 1 + (lightWs t.lights).length ≤ sizeLine := by
        unfold townWs at hlen
        simp at hlen
        omega
      have hz4 : t.roads.length + (lightWs t.lights).length + 1 ≤ sizeLine := by omega
      have eall2 : D.str (spaced (townW t)) :: ((t.roads.map (fun r => D.str (spaced (roadW r)))) ++ (lightWs t.lights).map (fun ws => D.str (spaced ws))) = (townWs t).map fun ws => D.str (spaced ws) := by
        rw [← eall]; rfl
      simp [hzz, hz4, isTstr]
      rw [eall2]
      rw [compM_map (fun ws => .str (spaced ws ++ "\n"))]
      · have hj := join_nl (ls := (townWs t).map spaced) (by rw [List.length_map]; omega) (fun l hm => by
          obtain ⟨ws, hw, rfl⟩ := List.mem_map.mp hm
          exact line_len (town_words h ws hw)) st
        rw [List.map_map, List.map_map] at hj
        have hj : mJoin (.str "") [.lst ((townWs t).map fun ws => .str (spaced ws ++ "\n"))] st = .ok (.str (townTx t)) st := hj
        simp [hj]
      · intro ws hw
        have := line_len (town_words h ws hw)
        have l5 : (spaced ws).length + ("\n" : Str).length ≤ sizeLine := by
          have e : ("\n" : Str).length = 1 := by decide +kernel
          rw [len_str, e]; omega
        simp [l5]
    · intro q hq
      obtain ⟨l, i⟩ := q
      cases l with
      | none =>
        have nn : ∀ st, vIsN true .non st = .ok (.bl false) st := fun st => rfl
        simp [lightD, nn, -x_isN]
      | some p =>
        have hm : (i, p) ∈ lits t.lights := by
          unfold lits
          exact List.mem_filterMap.mpr ⟨(some p, i), hq, rfl⟩
        obtain ⟨q1, q2⟩ := h.lit hm
        have ns : ∀ st, vIsN true (lightD (some p)) st = .ok (.bl true) st := fun st => rfl
        simp [ns, -x_isN, lights_text_ok q1 q2]
  · intro r hr
    obtain ⟨q1, q2, q3⟩ := h.roads r hr
    have n1 := q1.len
    have n2 := q2.len
    have n3 := q3.len
    have k1 : (Str.empty ++ ("road " : Str)).length ≤ sizeLine := by rw [len_str, tl_append, tl_roadS, tl_emptyS]; simp only [List.length_append, List.length_cons, List.length_nil]; omega
    have k2 : (Str.empty ++ ("road " : Str) ++ nt r.1).length ≤ sizeLine := by rw [len_str, tl_append, tl_append, tl_roadS, tl_emptyS]; simp only [List.length_append, List.length_cons, List.length_nil]; omega
    have k3 : (Str.empty ++ ("road " : Str) ++ nt r.1 ++ " ").length ≤ sizeLine := by rw [len_str, tl_append, tl_append, tl_append, tl_roadS, tl_emptyS, tl_space]; simp only [List.length_append, List.length_cons, List.length_nil]; omega
    have k4 : (Str.empty ++ ("road " : Str) ++ nt r.1 ++ " " ++ nt r.2.1).length ≤ sizeLine := by rw [len_str, tl_append, tl_append, tl_append, tl_append, tl_roadS, tl_emptyS, tl_space]; simp only [List.length_append, List.length_cons, List.length_nil]; omega
    have k5 : (Str.empty ++ ("road " : Str) ++ nt r.1 ++ " " ++ nt r.2.1 ++ " ").length ≤ sizeLine := by rw [len_str, tl_append, tl_append, tl_append, tl_append, tl_append, tl_roadS, tl_emptyS, tl_space]; simp only [List.length_append, List.length_cons, List.length_nil]; omega
    have k6 : (Str.empty ++ ("road " : Str) ++ nt r.1 ++ " " ++ nt r.2.1 ++ " " ++ nt r.2.2).length ≤ sizeLine := by rw [len_str, tl_append, tl_append, tl_append, tl_append, tl_append, tl_append, tl_roadS, tl_emptyS, tl_space]; simp only [List.length_append, List.length_cons, List.length_nil]; omega
    simp [roadD, fmt_int _ q1, fmt_int _ q2, fmt_int _ q3, k1, k2, k3, k4, k5, k6]
    exact road_fmt r
/-! ## the text, read -/
theorem townTx_len {t : Town} (h : TextTown t) : (tl (townTx t)).length ≤ 17 * 1441 := by
  unfold townTx
  rw [tl_joinT, tl_empty]
  have h1 := joinL_len [] 1441 (((townWs t).map fun ws => spaced ws ++ "\n").map tl) fun p hp => by
    rw [List.map_map] at hp
    obtain ⟨ws, hw, rfl⟩ := List.mem_map.mp hp
    have := line_len (town_words h ws hw)
    show (tl (spaced ws ++ "\n")).length ≤ 1441
    rw [tl_append, tl_nl, List.length_append, List.length_singleton]
    omega
  have h2 := townWs_len h
  simp only [List.length_map, List.length_nil, Nat.add_zero] at h1
  omega
theorem townTx_eq (t : Town) : townTx t = Txt.join "\n" ((townWs t).map spaced) ++ "\n" := by
  rw [← lines_eq (by simp [townWs]), List.map_map]; rfl
theorem lines_in_town {t : Town} (h : TextTown t) (st : Sto) : m_lines_in [.str (townTx t)] st = .ok (.lst ((townWs t).map fun ws => .lst (ws.map .str))) st := by
  have ht := townTx_len h
  have hw17 := townWs_len h
  have hsz : sizeLine = 16777216 := rfl
  have l1 : (townTx t).length ≤ sizeLine := by rw [len_str]; omega
  have hx : (tl ("\n" : Str)).length = 1 := by rw [tl_nl]; rfl
  have c1 : cutS (townTx t) (some (-1)) none = "\n" := by rw [townTx_eq]; exact (cut_last hx).1
  have c2 : cutS (townTx t) none (some (-1)) = Txt.join "\n" ((townWs t).map spaced) := by rw [townTx_eq]; exact (cut_last hx).2
  have l2 : (Txt.join "\n" ((townWs t).map spaced)).length + 2 ≤ sizeLine := by
    have : (tl (townTx t)).length = (tl (Txt.join "\n" ((townWs t).map spaced))).length + 1 := by
      rw [townTx_eq, tl_append, List.length_append, hx]
    rw [len_str]; omega
  have sp := split_ok (b := "\n") (by decide +kernel) l2 st
  rw [split_join (s := 10) (S := []) tl_nl (by decide +kernel) (by simp [townWs]) (fun p hp => by
    obtain ⟨ws, hw, rfl⟩ := List.mem_map.mp hp
    exact (town_words h ws hw).free), List.map_map] at sp
  have sp : mSplit (.str (Txt.join "\n" ((townWs t).map spaced))) [.str "\n"] st = .ok (.lst ((townWs t).map fun ws => .str (spaced ws))) st := sp
  unfold m_lines_in b_lines_in
  simp [envOf, l1, c1, c2, isTstr, sp, le_line (show (townWs t).length ≤ 1000 by omega)]
  rw [compM_map (fun ws => .lst (ws.map .str))]
  · simp
  · intro ws hw
    have W := town_words h ws hw
    simp [isTstr, spaced_split W.ne W.few (fun w hw => ⟨(W.w w hw).1, (W.w w hw).2.1⟩)]
@[simp] theorem x_sl_lst (ds : List D) (lo hi : Option Int) (st : Sto) : vSl (.lst ds) lo hi st = .ok (.lst (cutD ds lo hi)) st := rfl
theorem town_head_ok {t : Town} (h : TextTown t) (b : Bool) (st : Sto) : m_town_line [.lst ((townW t).map .str), .int 1, .bl b] st = .ok (.tup [.int t.many, .int t.circle]) st := by
  have hn := numbers_in_ok (ns := [t.many, t.circle]) (by simp) (fun n hn => by
    simp at hn
    rcases hn with e | e <;> subst e
    · exact h.many
    · exact h.circle) st
  have hn : m_numbers_in [.lst [.str (nt t.many), .str (nt t.circle)]] st = .ok (.tup [.int t.many, .int t.circle]) st := hn
  have hl : m_numbers_line [.lst ((townW t).map .str), .int 2] st = .ok (.tup [.int t.many, .int t.circle]) st := by
    unfold m_numbers_line b_numbers_line townW
    simp [envOf, cut_tail, hn]
  unfold m_town_line b_town_line
  have e0 : L2.atI ((townW t).map D.str) 0 = some (.str "town") := by simp [townW]
  simp [envOf, e0, hl]
theorem town_road_ok {r : Road} (h : NumOk r.1 ∧ NumOk r.2.1 ∧ NumOk r.2.2) (k : Int) (hk : k ≠ 1) (st : Sto) : m_town_line [.lst ((roadW r).map .str), .int k, .bl false] st = .ok (roadD r) st := by
  have hn := numbers_in_ok (ns := [r.1, r.2.1, r.2.2]) (by simp) (fun n hn => by
    simp at hn
    rcases hn with e | e | e <;> subst e
    · exact h.1
    · exact h.2.1
    · exact h.2.2) st
  have hn : m_numbers_in [.lst [.str (nt r.1), .str (nt r.2.1), .str (nt r.2.2)]] st = .ok (roadD r) st := hn
  have hl : m_numbers_line [.lst ((roadW r).map .str), .int 3] st = .ok (roadD r) st := by
    unfold m_numbers_line b_numbers_line roadW
    simp [envOf, cut_tail, hn]
  unfold m_town_line b_town_line
  have e0 : L2.atI ((roadW r).map D.str) 0 = some (.str "road") := by simp [roadW]
  have e1 : (("road" : Str) = "town") = False := by
    simp only [eq_iff_iff, iff_false]
    intro e
    have := congrArg tl e
    rw [tl_road, tl_town] at this
    cases this
  simp [envOf, e0, hl, hk]
theorem cut_13 (a b c : D) (r : List D) : cutD (a :: b :: c :: r) (some 1) (some 3) = [b, c] := by
  unfold cutD HT.sIx
  simp
theorem cut_3 (a b c : D) (r : List D) : cutD (a :: b :: c :: r) (some 3) none = r := by
  unfold cutD HT.sIx
  simp
theorem toPys_rows : ∀ rows : List Row, pls (rows.map rowD) = true ∧ deps (rows.map rowD) ≤ 2
  | [] => ⟨rfl, Nat.zero_le _⟩
  | r :: t => by
    obtain ⟨h1, h2⟩ := toPys_rows t
    have q1 : (rowD r).pl = true := by
      unfold rowD
      simp [pls_map D.int r.2 fun _ _ => rfl]
    have q2 : (rowD r).dep ≤ 2 := by
      unfold rowD
      have := deps_map D.int 0 r.2 fun _ _ => Nat.le_refl _
      simp
      omega
    refine ⟨by rw [List.map_cons, pls_cons, q1, h1]; rfl, by rw [List.map_cons, deps_cons]; omega⟩
theorem eqv_none : ∀ (rows : List Row) (ps : List PyData), toPys (rows.map rowD) = some ps → (ps.any fun z => PyData.eqv z .none) = false
  | [], ps, h => by
    rw [List.map_nil, toPys] at h; cases h; rfl
  | r :: t, ps, h => by
    rw [List.map_cons, toPys] at h
    cases h1 : toPy0 (rowD r) with
    | none => rw [h1] at h; cases h
    | some p =>
      cases h2 : toPys (t.map rowD) with
      | none => rw [h1, h2] at h; cases h
      | some qs =>
        rw [h1, h2] at h; cases h
        have e : PyData.eqv p .none = false := by
          unfold rowD at h1
          rw [toPy0] at h1
          cases h3 : toPys [D.int r.1, D.tup (r.2.map .int)] with
          | none => rw [h3] at h1; cases h1
          | some zs => rw [h3] at h1; cases h1; rfl
        rw [List.any_cons, e, eqv_none t qs h2]; rfl
theorem none_in_rows (rows : List Row) (st : Sto) : vIn false .non (.lst (rows.map rowD)) st = .ok (.bl false) st := by
  have e : inD st .non (.lst (rows.map rowD)) = some false := by
    show (if _ then _ else _) = _
    by_cases hr : rows = []
    · subst hr
      rw [if_pos ⟨rfl, rfl⟩]; rfl
    · rw [if_neg (fun h => by
        cases rows with
        | nil => exact hr rfl
        | cons r t =>
          have := h.2
          rw [List.map_cons, List.all_cons] at this
          have e : flatD (rowD r) = false := rfl
          rw [e] at this; cases this)]
      obtain ⟨h1, h2⟩ := toPys_rows rows
      obtain ⟨ps, q1, q2, q3⟩ := pys_pl _ h1
      have s1 : SeqAt.shaped (.list ps) = true := shaped_of (by rw [PyData.canLay0]; exact q2) (by rw [PyData.depth, q3]; omega)
      have s2 : SeqAt.shaped PyData.none = true := rfl
      show inDeep .non (rows.map rowD) st = _
      unfold inDeep
      have e0 : toPy st .non = some .none := rfl
      rw [e0, q1]
      simp only [s1, s2, and_self, if_true]
      rw [eqv_none rows ps q1]
  unfold vIn
  rw [e]; rfl
def litD (c : Int) (p : Int × List Row) : D := .tup [.int c, .int p.1, .tup (p.2.map rowD)]
theorem lights_line_ok {c : Int} {p : Int × List Row} (hc : NumOk c) (h : LightTx p) (st : Sto) : m_lights_line [.lst ((lightW c p).map .str)] st = .ok (litD c p) st := by
  have h1 := h.one
  have h4 := h.four
  have hn := numbers_in_ok (ns := [c, p.1]) (by simp) (fun n hn => by
    simp at hn
    rcases hn with e | e <;> subst e
    · exact hc
    · exact h.s) st
  have hn : m_numbers_in [.lst [.str (nt c), .str (nt p.1)]] st = .ok (.tup [.int c, .int p.1]) st := hn
  have ew : (lightW c p).map D.str = D.str "lights" :: D.str (nt c) :: D.str (nt p.1) :: p.2.map fun r => D.str (rowT r) := by simp [lightW]
  unfold m_lights_line b_lights_line
  rw [ew]
  have hz : ¬ ((p.2.length : Int) + 1 + 1 + 1 < 4) := by omega
  have nn : ∀ ds, vIsN false (.tup ds) st = .ok (.bl false) st := fun ds => rfl
  simp [envOf, hz, cut_13, cut_3, hn, nn, le_line (show p.2.length ≤ 1000 by omega)]
  rw [compM_map (fun r => rowD r)]
  · have hs2 : 2 + 1 ≤ sizeLine := by decide
    have hni : vIn false .non (.lst (p.2.map fun r => rowD r)) st = .ok (.bl false) st := none_in_rows p.2 st
    simp [hni, litD, hs2]
  · intro r hr
    simp [turn_in_ok (h.rows r hr)]
theorem town_light_ok {c : Int} {p : Int × List Row} (hc : NumOk c) (h : LightTx p) (k : Int) (hk : k ≠ 1) (b : Bool) (st : Sto) : m_town_line [.lst ((lightW c p).map .str), .int k, .bl b] st = .ok (litD c p) st := by
  have e0 : L2.atI ((lightW c p).map D.str) 0 = some (.str "lights") := by simp [lightW]
  have e1 : (("lights" : Str) = "road") = False := by
    simp only [eq_iff_iff, iff_false]
    intro e
    have := congrArg tl e
    rw [tl_lights, tl_road] at this
    cases this
  unfold m_town_line b_town_line
  simp [envOf, e0, e1, hk, lights_line_ok hc h]
/-- dict displays over pure things with keys that are not there yet -/
theorem dcM_pure {α : Type} {t : Its} {k : α → D} {g : GM} {c : BM} {ke e : EM} {env : Ev} {st : Sto} (gd : t.Gd st) (key : α → Key) (f : α → D) :
    ∀ (xs : List α) (acc : List (Key × D)), (acc.length + xs.length ≤ 1000) → ((acc.map (·.1)) ++ xs.map key).Nodup →
    (∀ x ∈ xs, Ok (fun env1 st1 => st1 = st ∧ c env1 st = .ok true st ∧ ∃ y, ke env1 st = .ok y st ∧ keyOf y = some (key x) ∧ e env1 st = .ok (f x) st) (g (k x) env st)) →
    dcM t g c ke e (xs.map k) acc env st = .ok (acc ++ xs.map fun x => (key x, f x)) st
  | [], acc, _, _, _ => by rw [List.map_nil, dcM, if_pos gd]; simp
  | x :: xs, acc, hl, hd, h => by
    rw [List.map_cons, dcM, if_pos gd]
    obtain ⟨env1, st1, e1, rfl, h2, y, h3, h4, h5⟩ := (h x List.mem_cons_self).ex
    have hlt : acc.length < sizeLine := Nat.lt_of_lt_of_le (by simp at hl; omega : acc.length < 1000) (by decide)
    have hp : putD acc (key x) (f x) = acc ++ [(key x, f x)] := by
      unfold putD
      rw [if_neg]
      intro hany
      obtain ⟨kv, hm, he⟩ := List.any_eq_true.mp hany
      have he := of_decide_eq_true he
      rw [List.nodup_append] at hd
      exact hd.2.2 kv.1 (List.mem_map.mpr ⟨kv, hm, rfl⟩) (key x) (by simp) he
    rw [e1, noEx_ok, bind_ok, h2, noEx_ok, bind_ok, if_pos rfl, h3, noEx_ok, bind_ok, h5, noEx_ok, bind_ok]
    simp only [h4, hlt, if_true, hp]
    rw [dcM_pure gd key f xs (acc ++ [(key x, f x)]) (by simp at hl ⊢; omega) (by simpa using hd) (fun z hz => h z (List.mem_cons_of_mem _ hz))]
    simp
theorem getD_lits {ls : List Light} (c : Nat) : ((getD ((lits ls).map fun q => ((Sum.inl (q.1 : Int) : Key), D.tup [.int q.2.1, .tup (q.2.2.map rowD)])) (Sum.inl (c : Int))).getD .non) = lightD ((ls[c]?).getD none) := by
  have key : ∀ (xs : List Light) (k : Nat), ((getD ((xs.zipIdx k).filterMap (fun p => p.1.map fun q => (p.2, q)) |>.map fun q => ((Sum.inl (q.1 : Int) : Key), D.tup [.int q.2.1, .tup (q.2.2.map rowD)])) (Sum.inl ((k + c : Nat) : Int))).getD .non) = lightD ((xs[c]?).getD none) := by
    intro xs
    clear ls
    induction xs generalizing c with
    | nil => intro k; rfl
    | cons x t ih =>
      intro k
      rw [List.zipIdx_cons]
      have none_at : ∀ (ys : List Light) (j : Nat) (m : Int), m < j → getD ((ys.zipIdx j).filterMap (fun p => p.1.map fun q => (p.2, q)) |>.map fun q => ((Sum.inl (q.1 : Int) : Key), D.tup [.int q.2.1, .tup (q.2.2.map rowD)])) (Sum.inl m) = none := by
        intro ys
        induction ys with
        | nil => intro j m _; rfl
        | cons y u ihy =>
          intro j m hm
          rw [List.zipIdx_cons]
          have hh := ihy (j + 1) m (by omega)
          cases y with
          | none => simpa using hh
          | some p =>
            have hne : ¬ ((j : Int) = m) := by omega
            simp only [List.filterMap_cons, Option.map_some, List.map_cons]
            unfold getD at hh ⊢
            rw [List.find?_cons_of_neg (by simpa using hne)]
            exact hh
      cases c with
      | zero =>
        cases x with
        | none =>
          have := none_at t (k + 1) (k : Int) (by omega)
          simp only [List.filterMap_cons, Option.map_none, Nat.add_zero]
          rw [this]; rfl
        | some p =>
          simp only [List.filterMap_cons, Option.map_some, List.map_cons, Nat.add_zero]
          unfold getD
          rw [List.find?_cons_of_pos (by simp)]
          rfl
      | succ c =>
        have hh := ih c (k + 1)
        have e : k + 1 + c = k + (c + 1) := by omega
        rw [e] at hh
        cases x with
        | none => simpa using hh
        | some p =>
          have hne : ¬ ((k : Int) = ((k + (c + 1) : Nat) : Int)) := by omega
          simp only [List.filterMap_cons, Option.map_some, List.map_cons, List.getElem?_cons_succ]
          unfold getD at hh ⊢
          rw [List.find?_cons_of_neg (by simpa using hne)]
          exact hh
  have := key ls 0
  rw [Nat.zero_add] at this
  exact this
end LB
/- ===== PRead ===== -/
set_option Elab.async false
set_option linter.all false
set_option maxRecDepth 100000
set_option autoImplicit false
namespace LB
open PySem PySem.Spec PyProof.Rows L2 TL
/-! # towns, read -/
theorem x_cDc (mi : IM) (vs : List Nat) (g : GM) (c : BM) (ke e : EM) (env : Ev) (st : Sto) : cDc mi vs g c ke e env st = (mi env st).bind fun t st1 => (noEx (dcM t g c ke e t.xs [] (wipeE env vs) st1)).bind fun kvs st2 => .ok (.ref st2.length) (st2 ++ [.dK false kvs]) := rfl
theorem fin_pureT {S L : Sto} {d : D} (hd : d.nr = true) : fin .val S d (S ++ L) = .ok d S := by
  by_cases hL : L = []
  · subst hL
    rw [List.append_nil]
    exact x_fin_same _ _ _ _ (Nat.le_refl _)
  have hlen : 0 < L.length := List.length_pos_iff.mpr hL
  have c : Clean S (S ++ L) := fun i hi => .inl (List.getElem?_append_left hi)
  have ht : (S ++ L).take S.length = S := take_app rfl
  unfold fin
  rw [if_neg (by rw [List.length_append]; omega)]
  simp only
  rw [if_pos c]
  cases d with
  | ref k => rw [D.nr] at hd; cases hd
  | _ => simp only [clo_nr _ _ hd, ht, if_true]
theorem lits_keys (ls : List Light) : ((lits ls).map fun q => ((Sum.inl (q.1 : Int)) : Key)).Nodup := by
  have h : ∀ (xs : List Light) (k : Nat), (((xs.zipIdx k).filterMap fun p => p.1.map fun q => (p.2, q)).map fun q : Nat × (Int × List Row) => (q.1 : Nat)).Pairwise (· < ·) ∧ ∀ j ∈ (((xs.zipIdx k).filterMap fun p => p.1.map fun q => (p.2, q)).map fun q : Nat × (Int × List Row) => (q.1 : Nat)), k ≤ j := by
    intro xs
    induction xs with
    | nil => intro k; exact ⟨List.Pairwise.nil, fun j hj => by simp at hj⟩
    | cons x t ih =>
      intro k
      obtain ⟨h1, h2⟩ := ih (k + 1)
      rw [List.zipIdx_cons]
      cases x with
      | none =>
        simp only [List.filterMap_cons, Option.map_none]
        exact ⟨h1, fun j hj => by have := h2 j hj; omega⟩
      | some p =>
        simp only [List.filterMap_cons, Option.map_some, List.map_cons]
        refine ⟨List.pairwise_cons.mpr ⟨fun j hj => by have := h2 j hj; omega, h1⟩, fun j hj => ?_⟩
        rcases List.mem_cons.mp hj with e | hj
        · omega
        · have := h2 j hj; omega
  have h0 := (h ls 0).1
  unfold List.Nodup
  rw [List.pairwise_map] at h0 ⊢
  unfold lits
  refine h0.imp fun {a b} hab e => ?_
  have := Sum.inl.inj e
  omega
theorem made_ok {t : Town} (hM : (t.lights.length : Int) = t.many) (h6 : t.lights.length ≤ 6) {st : Sto} {q1 q2 : Nat} (h1 : st[q1]? = some (.lst (t.roads.map roadD))) (h2 : st[q2]? = some (.lst ((lits t.lights).map fun q => litD (q.1 : Nat) q.2))) :
    m_made_of [.tup [.int t.many, .int t.circle], .ref q1, .ref q2] st = .ok (townD t) st := by
  have hll := lits_len t.lights
  have hd := dcM_pure (t := ⟨(lits t.lights).map fun q => litD (q.1 : Nat) q.2, [(q2, (lits t.lights).map fun q => litD (q.1 : Nat) q.2)]⟩) (k := fun q : Nat × (Int × List Row) => litD (q.1 : Nat) q.2)
    (g := gTp 3 (gsCons (gNm 4) (gsCons (gNm 5) (gsCons (gNm 6) gsNil)))) (c := bYes) (ke := cVar 4) (e := cTup (aCons (cVar 5) (aCons (cVar 6) aNil)))
    (env := [some (.tup [.int t.many, .int t.circle]), some (.ref q1), some (.ref q2), none, none, none, none, none]) (st := st) (fun q hq => by
      simp at hq; subst hq; exact h2) (fun q => Sum.inl (q.1 : Int)) (fun q => .tup [.int q.2.1, .tup (q.2.2.map rowD)]) (lits t.lights) [] (by simp; omega) (by simpa using lits_keys t.lights) (fun q _ => by
      simp [litD]; rfl)
  rw [List.nil_append] at hd
  unfold m_made_of b_made_of
  simp [envOf, x_cDc, h2, hd]
  have hmin : (if (6 : Int) < t.many then (6 : Int) else t.many) = t.many := by
    rw [if_neg (by omega)]
  have hb : -4611686018427387904 ≤ t.many ∧ t.many < 4611686018427387904 := by omega
  have g1 : ∀ L : Sto, (st ++ L)[q1]? = some (.lst (t.roads.map roadD)) := fun L => get_app h1
  simp [hmin, hb, big_size (show t.many ≤ 1000 by omega), x_tup_ref _ (g1 _)]
  rw [compM_map (xs := List.range t.many.toNat) (k := fun i : Nat => D.int (i : Int)) (fun i => lightD ((t.lights[i]?).getD none))]
  · have el : (List.range t.many.toNat).map (fun i => lightD ((t.lights[i]?).getD none)) = t.lights.map lightD := by
      have hm : t.many.toNat = t.lights.length := by omega
      rw [hm]
      apply List.ext_getElem
      · simp
      · intro i h1 h2
        simp at h1 h2 ⊢
        simp [h1]
    have h22 : 2 + 2 ≤ sizeLine := by decide
    simp [el, h22]
    rw [fin_pureT (d := .tup [.int t.many, .int t.circle, .tup (t.roads.map roadD), .tup (t.lights.map lightD)]) (by simp [nrs_map _ nr_road, nrs_map _ nr_light])]
    rfl
  · intro i hi
    have e := getD_lits (ls := t.lights) i
    simp [cDGet, dKof, keyOf]
    exact e
theorem zi_get {α : Type} {xs : List α} {f : α × Nat → D} {i : Nat} {d : D} (h : (xs.zipIdx.map f)[i]? = some d) : ∃ c, xs[i]? = some c ∧ d = f (c, i) := by
  rw [List.getElem?_map, List.getElem?_zipIdx] at h
  cases q : xs[i]? with
  | none => rw [q] at h; cases h
  | some c =>
    rw [q] at h
    simp at h
    exact ⟨c, rfl, h.symm⟩
def headD (t : Town) (i : Nat) : D := if i = 0 then .tup [] else .tup [.int t.many, .int t.circle]
def roadsTo (t : Town) (i : Nat) : List D := (t.roads.take (i - 1)).map roadD
def litsTo (t : Town) (i : Nat) : List D := ((lits t.lights).take (i - 1 - t.roads.length)).map fun q => litD (q.1 : Nat) q.2
structure RdInv (S : Sto) (t : Town) (i : Nat) (env : Ev) (st : Sto) : Prop where
  ex : ∃ x4 x5 x6 x7 : Option D, env = [some (.str (townTx t)), some (.ref S.length), some (.ref (S.length + 1)), some (headD t i), x4, x5, x6, x7] ∧ st = S ++ [.lst (roadsTo t i), .lst (litsTo t i)]
theorem lits_pl (qs : List (Nat × (Int × List Row))) : pls (qs.map fun q => litD (q.1 : Nat) q.2) = true ∧ deps (qs.map fun q => litD (q.1 : Nat) q.2) ≤ 63 := by
  refine ⟨pls_map _ qs fun q _ => ?_, Nat.le_trans (deps_map _ 4 qs fun q _ => ?_) (by decide)⟩
  · unfold litD
    simp [(toPys_rows q.2.2).1]
  · have := (toPys_rows q.2.2).2
    unfold litD
    simp
    omega
theorem read_ok {t : Town} (hb : townB t = true) (hs : SmallTown t) (h : TextTown t) (S : Sto) : m_read_town [.str (townTx t)] S = .ok (townD t) S := by
  suffices hsu : Ok (fun d st => d = townD t ∧ st = S) (m_read_town [.str (townTx t)] S) by
    obtain ⟨a, st, e, rfl, rfl⟩ := hsu.ex
    exact e
  have hM : (t.lights.length : Int) = t.many := by
    unfold townB at hb
    simp only [Bool.and_eq_true, decide_eq_true_eq] at hb
    exact hb.1.2
  have hw17 := townWs_len h
  unfold m_read_town b_read_town
  refine fn_w (seq_w ?_)
  simp [envOf, -x_sSeq]
  refine seq_w ?_
  simp [lines_in_town h, pairs_map, -x_sSeq]
  refine Ok.mono (forM_ok (RdInv S t) (fun _ _ => False) (fun _ _ => False) rfl (fun _ _ _ _ => gd_nil) ?_ ⟨_, _, _, _, rfl, by simp [roadsTo, litsTo]⟩) ?_
  · rintro i d env st hd ⟨x4, x5, x6, x7, rfl, rfl⟩
    obtain ⟨ws, hws, rfl⟩ := zi_get hd
    have gr : ∀ X Y : List D, (S ++ [O.lst X, O.lst Y])[S.length]? = some (.lst X) := fun X Y => app_get1 rfl
    have gl : ∀ X Y : List D, (S ++ [O.lst X, O.lst Y])[S.length + 1]? = some (.lst Y) := fun X Y => app_get2 rfl
    have hlit : vNe (.ref (S.length + 1)) (.lst []) (S ++ [O.lst (roadsTo t i), O.lst (litsTo t i)]) = .ok (.bl (!(litsTo t i).isEmpty)) (S ++ [O.lst (roadsTo t i), O.lst (litsTo t i)]) :=
      ne_empty (gl _ _) (lits_pl _).1 (lits_pl _).2
    have nn : ∀ ds st, vIsN false (.tup ds) st = .ok (.bl false) st := fun ds st => rfl
    have nr : ∀ r st, vIsN false (roadD r) st = .ok (.bl false) st := fun ds st => rfl
    have nl : ∀ c p st, vIsN false (litD c p) st = .ok (.bl false) st := fun c p st => rfl
    cases i with
    | zero =>
      have e : ws = townW t := by
        unfold townWs at hws
        simpa using hws.symm
      subst e
      simp [hlit, town_head_ok h, nn, -x_isN]
      exact ⟨_, _, _, _, rfl, by simp [roadsTo, litsTo]⟩
    | succ j =>
      have hws2 : (t.roads.map roadW ++ lightWs t.lights)[j]? = some ws := by
        unfold townWs at hws
        simpa using hws
      have hk : ¬ ((1 : Int) + ((j + 1 : Nat) : Int) = 1) := by omega
      have hk2 : ¬ ((1 : Int) + ((j : Int) + 1) = 1) := by omega
      have hk3 : ¬ ((j : Int) + 1 = 0) := by omega
      by_cases hj : j < t.roads.length
      · have e : ∃ r, t.roads[j]? = some r ∧ ws = roadW r := by
          rw [List.getElem?_append_left (by simpa using hj), List.getElem?_map] at hws2
          cases q : t.roads[j]? with
          | none => rw [q] at hws2; cases hws2
          | some r => rw [q] at hws2; exact ⟨r, rfl, by simpa using hws2.symm⟩
        obtain ⟨r, hr, rfl⟩ := e
        have hR := h.roads r (List.mem_of_getElem? hr)
        have hl0 : litsTo t (j + 1) = [] := by
          unfold litsTo
          have : j + 1 - 1 - t.roads.length = 0 := by omega
          rw [this]; rfl
        have hl1 : litsTo t (j + 1 + 1) = [] := by
          unfold litsTo
          have : j + 1 + 1 - 1 - t.roads.length = 0 := by omega
          rw [this]; rfl
        have hr1 : roadsTo t (j + 1 + 1) = roadsTo t (j + 1) ++ [roadD r] := by
          unfold roadsTo
          rw [show j + 1 + 1 - 1 = j + 1 from rfl, show j + 1 - 1 = j from rfl, List.take_succ, hr]
          simp
        rw [hl0] at hlit
        simp only [List.isEmpty_nil, Bool.not_true] at hlit
        have htl := town_road_ok hR ((1 : Int) + ((j + 1 : Nat) : Int)) hk (S ++ [O.lst (roadsTo t (j + 1)), O.lst []])
        have e0 : L2.atI ((roadW r).map D.str) 0 = some (.str "road") := by simp [roadW]
        have hap := append_ok (y := roadD r) (gr (roadsTo t (j + 1)) []) (by unfold roadsTo; simp; have := h.few; omega)
        rw [app_set1 rfl] at hap
        have hd2 : headD t (j + 1) = headD t (j + 1 + 1) := rfl
        rw [hl0]
        simp only [Int.natCast_add, Int.cast_ofNat_Int] at htl
        simp [hlit, htl, nr, -x_isN, hk2, hk3, e0, isT, hap]
        exact ⟨_, _, _, _, rfl, by rw [hl1, hr1]⟩
      · have e : ∃ q, (lits t.lights)[j - t.roads.length]? = some q ∧ ws = lightW (q.1 : Nat) q.2 := by
          rw [List.getElem?_append_right (by simpa using hj), List.length_map] at hws2
          unfold lightWs at hws2
          rw [List.getElem?_map] at hws2
          cases q : (lits t.lights)[j - t.roads.length]? with
          | none => rw [q] at hws2; cases hws2
          | some r => rw [q] at hws2; exact ⟨r, rfl, by simpa using hws2.symm⟩
        obtain ⟨q, hq, rfl⟩ := e
        obtain ⟨hc, hp⟩ := h.lit (List.mem_of_getElem? hq)
        have hr1 : roadsTo t (j + 1 + 1) = roadsTo t (j + 1) := by
          unfold roadsTo
          rw [List.take_of_length_le (by omega), List.take_of_length_le (by omega)]
        have hl1 : litsTo t (j + 1 + 1) = litsTo t (j + 1) ++ [litD (q.1 : Nat) q.2] := by
          unfold litsTo
          have e1 : j + 1 + 1 - 1 - t.roads.length = (j - t.roads.length) + 1 := by omega
          have e2 : j + 1 - 1 - t.roads.length = j - t.roads.length := by omega
          rw [e1, e2, List.take_succ, hq]
          simp
        have htl := town_light_ok hc hp ((1 : Int) + ((j + 1 : Nat) : Int)) hk (!(litsTo t (j + 1)).isEmpty) (S ++ [O.lst (roadsTo t (j + 1)), O.lst (litsTo t (j + 1))])
        have e0 : L2.atI ((lightW (q.1 : Nat) q.2).map D.str) 0 = some (.str "lights") := by simp [lightW]
        have e1 : (("lights" : Str) = "road") = False := by
          simp only [eq_iff_iff, iff_false]
          intro e
          have := congrArg tl e
          rw [tl_lights, tl_road] at this
          cases this
        have hap := append_ok (y := litD (q.1 : Nat) q.2) (gl (roadsTo t (j + 1)) (litsTo t (j + 1))) (by
          have := lits_len t.lights
          have := h.fewl
          unfold litsTo
          simp
          omega)
        rw [app_set2 rfl] at hap
        simp only [Int.natCast_add, Int.cast_ofNat_Int] at htl
        generalize hB : (!(litsTo t (j + 1)).isEmpty) = B at hlit htl
        simp [hlit, htl, nl, -x_isN, hk2, hk3, e0, e1, isT, hap]
        exact ⟨_, _, _, _, rfl, by rw [hl1, hr1]⟩
  · rintro out st q
    cases out with
    | nx env =>
      obtain ⟨x4, x5, x6, x7, rfl, rfl⟩ := q.resolve_right id
      have hlen : (townWs t).length = t.roads.length + (lits t.lights).length + 1 := by
        unfold townWs lightWs
        simp
      have e1 : roadsTo t (townWs t).length = t.roads.map roadD := by
        unfold roadsTo
        rw [List.take_of_length_le (by omega)]
      have e2 : litsTo t (townWs t).length = (lits t.lights).map fun q => litD (q.1 : Nat) q.2 := by
        unfold litsTo
        rw [List.take_of_length_le (by omega)]
      have e3 : headD t (townWs t).length = .tup [.int t.many, .int t.circle] := by
        unfold headD
        rw [if_neg (by omega)]
      simp only [List.length_map, List.length_zipIdx, e1, e2, e3]
      have m1 := made_ok (t := t) hM h.fewl (st := S ++ [O.lst (t.roads.map roadD), O.lst ((lits t.lights).map fun q => litD (q.1 : Nat) q.2)]) (app_get1 rfl) (app_get2 rfl)
      refine seq_w ?_
      simp [m1, town_ok t _ hs, hb, town_by_ok h]
      rw [fin_pureT (nr_town t)]
      exact ⟨rfl, rfl⟩
    | _ => exact q.elim
end LB
/- ===== PRepr ===== -/
set_option Elab.async false
set_option linter.all false
set_option maxRecDepth 100000
set_option autoImplicit false
namespace LB
open PySem PySem.Spec PyProof.Rows L2
/-! # repr of plain data -/
mutual
/-- whole numbers that can be told -/
def D.shw : D → Bool
  | .int i => decide (i.natAbs.log2 < 1920)
  | .tup ds => shws ds
  | .lst ds => shws ds
  | _ => true
def shws : List D → Bool
  | [] => true
  | d :: ds => D.shw d && shws ds
end
mutual
/-- how long it is told at most -/
def D.rl : D → Nat
  | .non => 4
  | .bl _ => 5
  | .int _ => 1921
  | .str s => 10 * s.length + 2
  | .tup ds => rls ds + 3
  | .lst ds => rls ds + 3
  | _ => 0
def rls : List D → Nat
  | [] => 0
  | d :: ds => D.rl d + 2 + rls ds
end
theorem strOk_lt {s : Str} (h : PyData.strOk s = true) : ∀ c ∈ s.cps.toList, c < 16 ^ 8 := fun c hc => by
  unfold PyData.strOk at h
  rw [Array.all_eq_true'] at h
  have := h c (by simpa using hc)
  simp only [decide_eq_true_eq] at this
  omega
mutual
theorem py_shw : ∀ (d : D) (p : PyData), toPy0 d = some p → d.pl = true → d.shw = true → p.showable = true ∧ p.shown.length ≤ d.rl
  | .non, p, h, _, _ => by rw [toPy0] at h; cases h; exact ⟨by rw [PyData.showable], by rw [PyData.shown]; decide +kernel⟩
  | .bl b, p, h, _, _ => by rw [toPy0] at h; cases h; exact ⟨by rw [PyData.showable], by rw [PyData.shown]; cases b <;> decide +kernel⟩
  | .int i, p, h, _, q => by
    rw [toPy0] at h; cases h
    rw [D.shw] at q
    refine ⟨by rw [PyData.showable]; exact q, ?_⟩
    rw [PyData.shown, D.rl]
    exact int_text_len_1921 (of_decide_eq_true q)
  | .str s, p, h, hp, _ => by
    rw [toPy0] at h; cases h
    rw [D.pl] at hp
    refine ⟨by rw [PyData.showable], ?_⟩
    rw [PyData.shown, D.rl]
    exact StrLaws.reprText_len s (strOk_lt hp)
  | .tup ds, p, h, hp, q => by
    rw [toPy0] at h
    rw [D.pl] at hp
    rw [D.shw] at q
    cases e : toPys ds with
    | none => rw [e] at h; cases h
    | some ps =>
      rw [e] at h; cases h
      obtain ⟨h1, h2⟩ := pys_shw ds ps e hp q
      refine ⟨by rw [PyData.showable]; exact h1, ?_⟩
      rw [PyData.shown, D.rl]
      exact Nat.le_trans (tupleText_len_le _) (by omega)
  | .lst ds, p, h, hp, q => by
    rw [toPy0] at h
    rw [D.pl] at hp
    rw [D.shw] at q
    cases e : toPys ds with
    | none => rw [e] at h; cases h
    | some ps =>
      rw [e] at h; cases h
      obtain ⟨h1, h2⟩ := pys_shw ds ps e hp q
      refine ⟨by rw [PyData.showable]; exact h1, ?_⟩
      rw [PyData.shown, D.rl]
      exact Nat.le_trans (listText_len_le _) (by omega)
  | .ref n, p, h, hp, _ => by rw [D.pl] at hp; cases hp
  | .scr n, p, h, hp, _ => by rw [D.pl] at hp; cases hp
theorem pys_shw : ∀ (ds : List D) (ps : List PyData), toPys ds = some ps → pls ds = true → shws ds = true → PyData.showableAll ps = true ∧ ((PyData.shownAll ps).map (·.length)).sum + 2 * (PyData.shownAll ps).length ≤ rls ds
  | [], ps, h, _, _ => by rw [toPys] at h; cases h; exact ⟨by rw [PyData.showableAll], by simp [PyData.shownAll]⟩
  | d :: ds, ps, h, hp, q => by
    rw [toPys] at h
    rw [pls, Bool.and_eq_true] at hp
    rw [shws, Bool.and_eq_true] at q
    cases e1 : toPy0 d with
    | none => rw [e1] at h; cases h
    | some p =>
      cases e2 : toPys ds with
      | none => rw [e1, e2] at h; cases h
      | some qs =>
        rw [e1, e2] at h; cases h
        obtain ⟨a1, a2⟩ := py_shw d p e1 hp.1 q.1
        obtain ⟨b1, b2⟩ := pys_shw ds qs e2 hp.2 q.2
        refine ⟨by rw [PyData.showableAll, a1, b1]; rfl, ?_⟩
        rw [PyData.shownAll, rls, List.map_cons, List.sum_cons, List.length_cons]
        omega
end
/-- what repr tells -/
def D.rep (d : D) : Str := match toPy0 d with
  | some p => p.shown
  | none => Str.empty
structure Shows (d : D) : Prop where
  pl : d.pl = true
  shw : d.shw = true
  dep : d.dep ≤ 64
  rl : d.rl ≤ 16777216
theorem repr_ok {d : D} (h : Shows d) (st : Sto) : vRepr d st = .ok (.str d.rep) st := by
  obtain ⟨p, q1, q2, q3⟩ := py_pl d h.pl
  obtain ⟨s1, s2⟩ := py_shw d p q1 h.pl h.shw
  have e : toPy st d = some p := by
    cases d with
    | ref n => have := h.pl; rw [D.pl] at this; cases this
    | _ => exact q1
  have e2 : d.rep = p.shown := by unfold D.rep; rw [q1]
  have c : p.showable = true ∧ p.hasDict = false ∧ p.depth ≤ 64 ∧ p.shown.length ≤ sizeLine := ⟨s1, PyData.hasDict_of_canLay p q2, by rw [q3]; exact h.dep, Nat.le_trans s2 h.rl⟩
  unfold vRepr reprD
  rw [e]
  simp only [c, and_self, if_true]
  rw [e2]
theorem toPys_tup {ds : List D} {ps : List PyData} (h : toPys ds = some ps) : toPy0 (.lst ds) = some (.list ps) := by rw [toPy0, h]; rfl
/-- a list of the store is told as the list -/
theorem repr_ref {n : Nat} {ds : List D} {st : Sto} (hn : st[n]? = some (.lst ds)) (h : Shows (.lst ds)) : vRepr (.ref n) st = .ok (.str (D.lst ds).rep) st := by
  have := repr_ok h st
  have e : toPy st (.ref n) = toPy st (.lst ds) := by
    show (match st[n]? with | some (O.lst ds) => (toPys ds).map PyData.list | _ => none) = _
    rw [hn]
    show _ = toPy0 (.lst ds)
    rw [toPy0]
  unfold vRepr reprD at this ⊢
  rw [e]
  exact this
theorem strOk_rep {d : D} (h : Shows d) : True := trivial
@[simp] theorem shw_int (i : Int) : (D.int i).shw = decide (i.natAbs.log2 < 1920) := rfl
@[simp] theorem shw_bl (i : Bool) : (D.bl i).shw = true := rfl
@[simp] theorem shw_non : D.non.shw = true := rfl
@[simp] theorem shw_str (s : Str) : (D.str s).shw = true := rfl
@[simp] theorem shw_tup (ds : List D) : (D.tup ds).shw = shws ds := rfl
@[simp] theorem shw_lst (ds : List D) : (D.lst ds).shw = shws ds := rfl
@[simp] theorem shws_nil : shws [] = true := rfl
@[simp] theorem shws_cons (d : D) (ds : List D) : shws (d :: ds) = (d.shw && shws ds) := rfl
@[simp] theorem rl_int (i : Int) : (D.int i).rl = 1921 := rfl
@[simp] theorem rl_bl (i : Bool) : (D.bl i).rl = 5 := rfl
@[simp] theorem rl_non : D.non.rl = 4 := rfl
@[simp] theorem rl_str (s : Str) : (D.str s).rl = 10 * s.length + 2 := rfl
@[simp] theorem rl_tup (ds : List D) : (D.tup ds).rl = rls ds + 3 := rfl
@[simp] theorem rl_lst (ds : List D) : (D.lst ds).rl = rls ds + 3 := rfl
@[simp] theorem rls_nil : rls [] = 0 := rfl
@[simp] theorem rls_cons (d : D) (ds : List D) : rls (d :: ds) = d.rl + 2 + rls ds := rfl
theorem shws_map {α : Type} (f : α → D) : ∀ (xs : List α), (∀ x ∈ xs, (f x).shw = true) → shws (xs.map f) = true
  | [], _ => rfl
  | x :: xs, h => by rw [List.map_cons, shws, h x List.mem_cons_self, shws_map f xs fun y hy => h y (List.mem_cons_of_mem _ hy)]; rfl
theorem rls_map {α : Type} (f : α → D) (n : Nat) : ∀ (xs : List α), (∀ x ∈ xs, (f x).rl ≤ n) → rls (xs.map f) ≤ xs.length * (n + 2)
  | [], _ => Nat.zero_le _
  | x :: xs, h => by
    have a := h x List.mem_cons_self
    have b := rls_map f n xs fun y hy => h y (List.mem_cons_of_mem _ hy)
    rw [List.map_cons, rls, List.length_cons, Nat.add_mul]
    omega
theorem small_log {i : Int} (h : i.natAbs < 2 ^ 64) : decide (i.natAbs.log2 < 1920) = true := by
  refine decide_eq_true ?_
  by_cases h0 : i.natAbs = 0
  · rw [h0]; decide
  · have := (Nat.log2_lt h0).mpr h
    omega
end LB
/- ===== PAsc ===== -/
set_option Elab.async false
set_option linter.all false
set_option maxRecDepth 100000
set_option autoImplicit false
namespace LB
open PySem PySem.Spec PyProof.Rows L2 TL
/-! # texts of plain signs; towns are told by repr -/
def Asc (s : Str) : Prop := ∀ x ∈ tl s, x < 128
theorem asc_app {a b : Str} (h1 : Asc a) (h2 : Asc b) : Asc (a ++ b) := fun x hx => by
  rw [tl_append] at hx
  exact (List.mem_append.mp hx).elim (h1 x) (h2 x)
theorem asc_join {y : Str} {ps : List Str} (h1 : Asc y) (h2 : ∀ p ∈ ps, Asc p) : Asc (Txt.join y ps) := fun x hx => by
  rw [tl_joinT] at hx
  rcases joinL_mem _ _ _ hx with q | ⟨p, hp, hc⟩
  · exact h1 x q
  · obtain ⟨w, hw, rfl⟩ := List.mem_map.mp hp
    exact h2 w hw x hc
theorem asc_nt {n : Int} (h : 0 ≤ n) : Asc (nt n) := fun x hx => by
  rw [nt_tl h] at hx
  have := numL_digits _ x hx
  omega
theorem asc_by {s : Str} {l : List Nat} (h : tl s = l) (hl : l.all (· < 128) = true) : Asc s := fun x hx => by
  rw [h] at hx
  exact of_decide_eq_true (List.all_eq_true.mp hl x hx)
theorem asc_ok {s : Str} (h : Asc s) : PyData.strOk s = true := by
  unfold PyData.strOk
  rw [Array.all_eq_true']
  intro x hx
  have := h x (by simpa [tl] using hx)
  exact decide_eq_true (by omega)
theorem asc_space : Asc " " := asc_by tl_space rfl
theorem asc_nl : Asc "\n" := asc_by tl_nl rfl
theorem asc_comma : Asc "," := asc_by tl_comma rfl
theorem asc_colon : Asc ":" := asc_by tl_colon rfl
theorem asc_empty : Asc "" := asc_by tl_empty rfl
theorem asc_nums {ns : List Int} (h : ∀ n ∈ ns, 0 ≤ n) : Asc (numsT ns) := asc_join asc_comma fun p hp => by
  obtain ⟨n, hn, rfl⟩ := List.mem_map.mp hp
  exact asc_nt (h n hn)
theorem asc_dash {ns : List Int} (h : ∀ n ∈ ns, 0 ≤ n) : Asc (dashT ns) := by
  unfold dashT
  split
  · exact asc_by tl_dash rfl
  · exact asc_nums h
theorem asc_row {r : Row} (h : RowTx r) : Asc (rowT r) := asc_app (asc_app (asc_nt h.b.nn) asc_colon) (asc_dash fun n hn => (h.g n hn).nn)
theorem asc_words {t : Town} (h : TextTown t) : ∀ ws ∈ townWs t, ∀ w ∈ ws, Asc w := by
  intro ws hw w hm
  unfold townWs at hw
  rcases List.mem_cons.mp hw with e | hw
  · subst e
    unfold townW at hm
    rcases List.mem_cons.mp hm with e | hm
    · subst e; exact asc_by tl_town rfl
    · rcases List.mem_cons.mp hm with e | hm
      · subst e; exact asc_nt h.many.nn
      · rw [List.mem_singleton.mp hm]; exact asc_nt h.circle.nn
  · rcases List.mem_append.mp hw with hw | hw
    · obtain ⟨r, hr, rfl⟩ := List.mem_map.mp hw
      obtain ⟨a, b, c⟩ := h.roads r hr
      unfold roadW at hm
      rcases List.mem_cons.mp hm with e | hm
      · subst e; exact asc_by tl_road rfl
      · rcases List.mem_cons.mp hm with e | hm
        · subst e; exact asc_nt a.nn
        · rcases List.mem_cons.mp hm with e | hm
          · subst e; exact asc_nt b.nn
          · rw [List.mem_singleton.mp hm]; exact asc_nt c.nn
    · unfold lightWs at hw
      obtain ⟨q, hq, rfl⟩ := List.mem_map.mp hw
      obtain ⟨hc, hp⟩ := h.lit hq
      unfold lightW at hm
      rcases List.mem_append.mp hm with hm | hm
      · rcases List.mem_cons.mp hm with e | hm
        · subst e; exact asc_by tl_lights rfl
        · rcases List.mem_cons.mp hm with e | hm
          · subst e; exact asc_nt hc.nn
          · rw [List.mem_singleton.mp hm]; exact asc_nt hp.s.nn
      · obtain ⟨r, hr, rfl⟩ := List.mem_map.mp hm
        exact asc_row (hp.rows r hr)
theorem asc_town {t : Town} (h : TextTown t) : Asc (townTx t) := asc_join asc_empty fun p hp => by
  obtain ⟨ws, hw, rfl⟩ := List.mem_map.mp hp
  exact asc_app (asc_join asc_space (asc_words h ws hw)) asc_nl
theorem shows_str {s : Str} (h : Asc s) (hl : s.length ≤ 1000000) : Shows (.str s) := ⟨asc_ok h, rfl, by rw [dep_str]; omega, by rw [rl_str]; omega⟩
theorem num_small {n : Int} (h : NumOk n) : decide (n.natAbs.log2 < 1920) = true := small_log (by
  have := h.nn
  have := h.lt
  omega)
theorem road_shows {r : Road} (h : NumOk r.1 ∧ NumOk r.2.1 ∧ NumOk r.2.2) : (roadD r).pl = true ∧ (roadD r).shw = true ∧ (roadD r).dep ≤ 1 ∧ (roadD r).rl ≤ 6000 := by
  unfold roadD
  refine ⟨rfl, ?_, by simp, by simp⟩
  simp only [shw_tup, shws_cons, shws_nil, shw_int, num_small h.1, num_small h.2.1, num_small h.2.2, Bool.and_self]
theorem row_shows {r : Row} (h : RowTx r) : (rowD r).pl = true ∧ (rowD r).shw = true ∧ (rowD r).dep ≤ 2 ∧ (rowD r).rl ≤ 22000 := by
  unfold rowD
  have a1 : pls (r.2.map D.int) = true := pls_map _ _ fun _ _ => rfl
  have a2 : shws (r.2.map D.int) = true := shws_map _ _ fun x hx => num_small (h.g x hx)
  have a3 : deps (r.2.map D.int) ≤ 0 := deps_map _ 0 _ fun _ _ => Nat.le_refl _
  have a4 := rls_map D.int 1921 r.2 fun _ _ => Nat.le_refl _
  have := h.few
  have a5 : r.2.length * 1923 ≤ 10 * 1923 := Nat.mul_le_mul_right _ this
  refine ⟨by simp [a1], by simp [a2, num_small h.b], by simp; omega, by simp; omega⟩
theorem light_shows {l : Light} (h : ∀ p, l = some p → LightTx p) : (lightD l).pl = true ∧ (lightD l).shw = true ∧ (lightD l).dep ≤ 4 ∧ (lightD l).rl ≤ 100000 := by
  cases l with
  | none => exact ⟨rfl, rfl, Nat.zero_le _, by unfold lightD; decide⟩
  | some p =>
    have hp := h p rfl
    unfold lightD
    have a1 : pls (p.2.map rowD) = true := pls_map _ _ fun r hr => (row_shows (hp.rows r hr)).1
    have a2 : shws (p.2.map rowD) = true := shws_map _ _ fun r hr => (row_shows (hp.rows r hr)).2.1
    have a3 : deps (p.2.map rowD) ≤ 2 := deps_map _ 2 _ fun r hr => (row_shows (hp.rows r hr)).2.2.1
    have a4 := rls_map rowD 22000 p.2 fun r hr => (row_shows (hp.rows r hr)).2.2.2
    have := hp.four
    have a5 : p.2.length * 22002 ≤ 4 * 22002 := Nat.mul_le_mul_right _ this
    refine ⟨by simp [a1], by simp [a2, num_small hp.s], by simp; omega, by simp; omega⟩
theorem town_shows {t : Town} (h : TextTown t) : Shows (townD t) ∧ (townD t).dep ≤ 6 ∧ (townD t).rl ≤ 1000000 := by
  have hl : ∀ l ∈ t.lights, ∀ p, l = some p → LightTx p := fun l hm p e => by
    subst e
    obtain ⟨i, hi⟩ := List.mem_iff_getElem?.mp hm
    have : (i, p) ∈ lits t.lights := by
      unfold lits
      exact List.mem_filterMap.mpr ⟨(some p, i), by rw [List.mem_zipIdx_iff_getElem?]; exact hi, rfl⟩
    exact (h.lit this).2
  have a1 : pls (t.roads.map roadD) = true := pls_map _ _ fun r hr => (road_shows (h.roads r hr)).1
  have a2 : shws (t.roads.map roadD) = true := shws_map _ _ fun r hr => (road_shows (h.roads r hr)).2.1
  have a3 : deps (t.roads.map roadD) ≤ 1 := deps_map _ 1 _ fun r hr => (road_shows (h.roads r hr)).2.2.1
  have a4 := rls_map roadD 6000 t.roads fun r hr => (road_shows (h.roads r hr)).2.2.2
  have b1 : pls (t.lights.map lightD) = true := pls_map _ _ fun r hr => (light_shows (hl r hr)).1
  have b2 : shws (t.lights.map lightD) = true := shws_map _ _ fun r hr => (light_shows (hl r hr)).2.1
  have b3 : deps (t.lights.map lightD) ≤ 4 := deps_map _ 4 _ fun r hr => (light_shows (hl r hr)).2.2.1
  have b4 := rls_map lightD 100000 t.lights fun r hr => (light_shows (hl r hr)).2.2.2
  have c1 := h.few
  have c2 := h.fewl
  have a5 : t.roads.length * 6002 ≤ 10 * 6002 := Nat.mul_le_mul_right _ c1
  have b5 : t.lights.length * 100002 ≤ 6 * 100002 := Nat.mul_le_mul_right _ c2
  have d1 : (townD t).pl = true := by unfold townD; simp [a1, b1]
  have d2 : (townD t).shw = true := by unfold townD; simp [a2, b2, num_small h.many, num_small h.circle]
  have d3 : (townD t).dep ≤ 6 := by unfold townD; simp; omega
  have d4 : (townD t).rl ≤ 1000000 := by unfold townD; simp; omega
  exact ⟨⟨d1, d2, by omega, by omega⟩, d3, d4⟩
end LB
/- ===== Plain ===== -/
set_option Elab.async false
set_option linter.all false
set_option maxRecDepth 100000
set_option autoImplicit false
set_option maxHeartbeats 0
namespace LB
open PySem PySem.Spec PyProof.Rows L2 TL
/-! # the law: towns written and read -/
theorem rising_len : ∀ (g : List Int) (a : Int), risingB g = true → (∀ x ∈ g, x < 10) → (∀ x, g.head? = some x → a ≤ x) → a ≤ 10 → (g.length : Int) ≤ 10 - a
  | [], a, _, _, _, h => by simp; omega
  | [x], a, _, h1, h2, h => by
    have := h1 x (by simp)
    have := h2 x rfl
    simp; omega
  | x :: y :: t, a, hr, h1, h2, h => by
    have hx := h1 x (by simp)
    have ha := h2 x rfl
    have hr2 : x < y ∧ risingB (y :: t) = true := by
      unfold risingB at hr ⊢
      simp only [List.drop_one, List.tail_cons, List.zip_cons_cons, List.all_cons, Bool.and_eq_true, decide_eq_true_eq] at hr ⊢
      exact hr
    have ih := rising_len (y :: t) (x + 1) hr2.2 (fun z hz => h1 z (List.mem_cons_of_mem _ hz)) (fun z hz => by
      have : y = z := by simpa using hz
      omega) (by omega)
    simp only [List.length_cons] at ih ⊢
    omega
/-- a new list is handed back -/
theorem fin_newlist {S L : Sto} {ds : List D} (h : nrs ds = true) : fin .val S (.ref S.length) (S ++ O.lst ds :: L) = .ok (.lst ds) S := by
  have c : Clean S (S ++ O.lst ds :: L) := fun i hi => .inl (List.getElem?_append_left hi)
  unfold fin
  rw [if_neg (by simp)]
  simp only
  rw [if_pos c, if_neg (by omega), app_get1 rfl]
  simp only
  rw [if_pos (clos_nr _ _ h), take_app rfl]
theorem GenA.text {t : Town} (h : GenA t) : TextTown t := by
  have hb := h.ok
  unfold townB at hb
  simp only [Bool.and_eq_true, decide_eq_true_eq, List.all_eq_true] at hb
  obtain ⟨⟨⟨⟨m1, m6, c1, c12, r1, r10⟩, hr⟩, hl⟩, hz⟩ := hb
  refine ⟨⟨by omega, by omega⟩, ⟨by omega, by omega⟩, fun r hm => ?_, fun l hm p e => ?_, r10, by omega⟩
  · have := hr r hm
    unfold roadB at this
    have := of_decide_eq_true this
    exact ⟨⟨by omega, by omega⟩, ⟨by omega, by omega⟩, ⟨by omega, by omega⟩⟩
  · subst e
    obtain ⟨i, hi⟩ := List.mem_iff_getElem?.mp hm
    have hil : i < t.lights.length := (List.getElem?_eq_some_iff.mp hi).1
    have := hz (some p, i) (by rw [List.mem_zipIdx_iff_getElem?]; exact hi)
    simp only [lightB, Bool.and_eq_true, decide_eq_true_eq, List.all_eq_true] at this
    obtain ⟨⟨⟨s0, s1, n1, n4⟩, ht⟩, _⟩ := this
    refine ⟨⟨s0, by omega⟩, n1, n4, fun r hrm => ?_⟩
    have q := ht r hrm
    simp only [turnB, Bool.and_eq_true, decide_eq_true_eq, List.all_eq_true] at q
    obtain ⟨⟨⟨b1, b12⟩, hin⟩, hris⟩ := q
    have hmem : ∀ x ∈ r.2, 0 ≤ x ∧ x < 10 := fun x hx => by
      have := hin x hx
      unfold endsAt at this
      obtain ⟨y, hy, rfl⟩ := List.mem_map.mp this
      have := List.mem_zipIdx (List.mem_filter.mp hy).1
      omega
    refine ⟨⟨by omega, by omega⟩, ?_, fun x hx => ⟨(hmem x hx).1, by have := (hmem x hx).2; omega⟩⟩
    have := rising_len r.2 0 hris (fun x hx => (hmem x hx).2) (fun x hx => (hmem x (List.mem_of_mem_head? (by rw [hx]; rfl))).1) (by omega)
    omega
theorem vadds (a b : Str) (h : (tl a).length + (tl b).length ≤ 16000000) (st : Sto) : vAdd (.str a) (.str b) st = .ok (.str (a ++ b)) st := by
  rw [x_adds, if_pos]
  have : sizeLine = 16777216 := rfl
  rw [len_str, len_str]; omega
theorem town_cat (t : Town) : (("town " : Str) ++ nt t.many ++ " " ++ nt t.circle) = spaced (townW t) := by
  rw [← town_fmt]
  apply ext_tl
  simp only [tl_append, tl_emptyS, List.nil_append]
theorem road_cat (r : Road) : (("road " : Str) ++ nt r.1 ++ " " ++ nt r.2.1 ++ " " ++ nt r.2.2) = spaced (roadW r) := by
  rw [← road_fmt]
  apply ext_tl
  simp only [tl_append, tl_emptyS, List.nil_append]
theorem joinL_flat : ∀ (ps : List (List Nat)) (p0 : List Nat), joinL [32] (p0 :: ps) = p0 ++ (ps.map fun p => 32 :: p).flatten
  | [], p0 => by simp [joinL]
  | p :: ps, p0 => by
    show p0 ++ ([32] ++ joinL [32] (p :: ps)) = _
    rw [joinL_flat ps p]
    simp
theorem light_cat (c : Int) (p : Int × List Row) : (("lights " : Str) ++ nt c ++ " " ++ nt p.1 ++ Txt.join "" (p.2.map fun r => " " ++ nt r.1 ++ ":" ++ dashT r.2)) = spaced (lightW c p) := by
  apply ext_tl
  unfold spaced lightW
  rw [tl_joinT, tl_space]
  simp only [tl_append, tl_joinT, tl_empty, joinL_nil, tl_lightsS, tl_space, List.map_append, List.map_cons, List.map_nil, List.cons_append, List.nil_append]
  rw [joinL_flat, tl_lights]
  simp only [List.map_cons, List.flatten_cons, List.map_map, List.cons_append, List.nil_append, List.append_assoc]
  have e : (tl ∘ fun r : Row => (" " : Str) ++ nt r.1 ++ ":" ++ dashT r.2) = (fun p => 32 :: p) ∘ tl ∘ rowT := by
    funext r
    simp [rowT, tl_append, tl_space, tl_colon]
  rw [e]
theorem commas_ok {ns : List Int} (hl : ns.length ≤ 10) (h : ∀ n ∈ ns, NumOk n) (st : Sto) : m_l_commas [.tup (ns.map .int)] st = .ok (.str (dashT ns)) st := by
  unfold m_l_commas b_l_commas
  by_cases hn : ns = []
  · subst hn
    simp [envOf, dashT]
  · have hpos : 0 < ns.length := List.length_pos_iff.mpr hn
    have hp2 : (0 : Int) < (ns.length : Int) := by omega
    simp [envOf, hpos, hp2, isT, le_line (show ns.length ≤ 1000 by omega)]
    rw [compM_map (fun n => .str (nt n))]
    · have hj : mJoin (.str ",") [.lst (ns.map fun n => .str (nt n))] st = .ok (.str (numsT ns)) st := by
        have := join_lst (a := ",") (ys := ns.map nt) (by
          have h1 := sum_le (fun s : Str => s.length) 12 (ns.map nt) (fun x hx => by
            obtain ⟨n, hn, rfl⟩ := List.mem_map.mp hx
            rw [len_str]; exact (h n hn).len)
          have h2 : ("," : Str).length = 1 := by decide +kernel
          rw [h2]
          simp at h1 ⊢
          omega) st
        rw [List.map_map] at this
        exact this
      simp [hj, dashT, hn]
    · intro n hm
      simp [str_int n (h n hm)]
theorem rows_comp {rows : List Row} {env : Ev} (h : ∀ r ∈ rows, RowTx r) (hl : 9 < env.length) (st : Sto) : compM ⟨rows.map rowD, []⟩ (gTp 2 (gsCons (gNm 8) (gsCons (gNm 9) gsNil))) bYes (c2 vAdd (c2 vAdd (c2 vAdd (cC (.str " ")) (cBlt (f1 vStr) (aCons (cVar 8) aNil))) (cC (.str ":"))) (cCall 1 m_l_commas (aCons (cVar 9) aNil))) (rows.map rowD) env st = .ok (rows.map fun r => .str ((" " : Str) ++ nt r.1 ++ ":" ++ dashT r.2)) st := by
  rw [compM_map (xs := rows) (k := rowD) (fun r => .str ((" " : Str) ++ nt r.1 ++ ":" ++ dashT r.2))]
  intro r hr
  have R := h r hr
  have b1 := R.b.len
  have b2 := dash_len R.few R.g
  have w1 := vadds " " (nt r.1) (by rw [tl_space]; simp only [List.length_append, List.length_cons, List.length_nil]; omega)
  have w2 := vadds (" " ++ nt r.1) ":" (by rw [tl_append, tl_space, tl_colon]; simp only [List.length_append, List.length_cons, List.length_nil]; omega)
  have w3 := vadds (" " ++ nt r.1 ++ ":") (dashT r.2) (by rw [tl_append, tl_append, tl_space, tl_colon]; simp only [List.length_append, List.length_cons, List.length_nil]; omega)
  have e8 : ((env.set 8 (some (D.int r.1))).set 9 (some (D.tup (r.2.map .int))))[8]? = some (some (.int r.1)) := by
    rw [List.getElem?_set_ne (by decide), List.getElem?_set_self (by omega)]
  have e9 : ((env.set 8 (some (D.int r.1))).set 9 (some (D.tup (r.2.map .int))))[9]? = some (some (.tup (r.2.map .int))) := List.getElem?_set_self (by rw [List.length_set]; omega)
  unfold rowD
  simp only [x_gTp, x_gsCons, x_gsNil, x_gNm, bind_ok, ok_ok, x_bYes, x_c2, x_cC, x_cBlt, x_aCons, x_aNil, x_cVar, x_cCall, e8, e9, x_f1, str_int _ R.b, commas_ok R.few R.g, w1, w2, w3, List.length_cons, List.length_nil, if_true, and_self, Nat.reduceAdd]
theorem lits_snoc (ls : List Light) (l : Light) : lits (ls ++ [l]) = lits ls ++ (match l with | some p => [(ls.length, p)] | none => []) := by
  unfold lits
  rw [List.zipIdx_append, List.filterMap_append]
  cases l <;> simp
structure Rl1 (S : Sto) (t : Town) (i : Nat) (env : Ev) (st : Sto) : Prop where
  ex : ∃ x2 x3 x4 x5 x6 x7 x8 x9 : Option D, env = [some (townD t), some (.ref S.length), x2, x3, x4, x5, x6, x7, x8, x9] ∧ st = S ++ [.lst (.str (spaced (townW t)) :: (t.roads.take i).map fun r => .str (spaced (roadW r)))]
structure Rl2 (S : Sto) (t : Town) (i : Nat) (env : Ev) (st : Sto) : Prop where
  ex : ∃ x2 x3 x4 x5 x6 x7 x8 x9 : Option D, env = [some (townD t), some (.ref S.length), x2, x3, x4, x5, x6, x7, x8, x9] ∧ st = S ++ [.lst ((.str (spaced (townW t)) :: t.roads.map fun r => .str (spaced (roadW r))) ++ (lits (t.lights.take i)).map fun q => .str (spaced (lightW (q.1 : Nat) q.2)))]
theorem lines_ok {t : Town} (h : TextTown t) (S : Sto) : m_l_town_lines [townD t] S = .ok (.lst ((townWs t).map fun ws => .str (spaced ws))) S := by
  suffices hsu : Ok (fun d st => d = .lst ((townWs t).map fun ws => .str (spaced ws)) ∧ st = S) (m_l_town_lines [townD t] S) by
    obtain ⟨a, st, e, rfl, rfl⟩ := hsu.ex
    exact e
  have h10 := h.few
  have h6 := h.fewl
  have m1 := h.many.len
  have m2 := h.circle.len
  have tlen := line_len (townW_ok h)
  unfold m_l_town_lines b_l_town_lines
  refine fn_w (seq_w ?_)
  have i0 : ∀ st, vIx (townD t) (.int 0) st = .ok (.int t.many) st := fun st => by simp [townD]
  have i1 : ∀ st, vIx (townD t) (.int 1) st = .ok (.int t.circle) st := fun st => by simp [townD]
  have i2 : ∀ st, vIx (townD t) (.int 2) st = .ok (.tup (t.roads.map roadD)) st := fun st => by simp [townD]
  have i3 : ∀ st, vIx (townD t) (.int 3) st = .ok (.tup (t.lights.map lightD)) st := fun st => by simp [townD]
  have v1 := vadds "town " (nt t.many) (by rw [tl_townS]; simp only [List.length_append, List.length_cons, List.length_nil]; omega)
  have v2 := vadds ("town " ++ nt t.many) " " (by rw [tl_append, tl_townS, tl_space]; simp only [List.length_append, List.length_cons, List.length_nil]; omega)
  have v3 := vadds ("town " ++ nt t.many ++ " ") (nt t.circle) (by rw [tl_append, tl_append, tl_townS, tl_space]; simp only [List.length_append, List.length_cons, List.length_nil]; omega)
  simp [envOf, i0, i1, str_int _ h.many, str_int _ h.circle, v1, v2, v3, town_cat, -x_sSeq, -x_adds]
  refine seq_w ?_
  simp [i2, -x_sSeq]
  refine Ok.mono (forM_ok (Rl1 S t) (fun _ _ => False) (fun _ _ => False) rfl (fun _ _ _ _ => gd_nil) ?_ ⟨_, _, _, _, _, _, _, _, rfl, by simp⟩) ?_
  · rintro i d env st hd ⟨x2, x3, x4, x5, x6, x7, x8, x9, rfl, rfl⟩
    rw [List.getElem?_map] at hd
    cases hr : t.roads[i]? with
    | none => rw [hr] at hd; cases hd
    | some r =>
      rw [hr] at hd
      cases hd
      obtain ⟨q1, q2, q3⟩ := h.roads r (List.mem_of_getElem? hr)
      have n1 := q1.len
      have n2 := q2.len
      have n3 := q3.len
      have w1 := vadds "road " (nt r.1) (by rw [tl_roadS]; simp only [List.length_append, List.length_cons, List.length_nil]; omega)
      have w2 := vadds ("road " ++ nt r.1) " " (by rw [tl_append, tl_roadS, tl_space]; simp only [List.length_append, List.length_cons, List.length_nil]; omega)
      have w3 := vadds ("road " ++ nt r.1 ++ " ") (nt r.2.1) (by rw [tl_append, tl_append, tl_roadS, tl_space]; simp only [List.length_append, List.length_cons, List.length_nil]; omega)
      have w4 := vadds ("road " ++ nt r.1 ++ " " ++ nt r.2.1) " " (by rw [tl_append, tl_append, tl_append, tl_roadS, tl_space]; simp only [List.length_append, List.length_cons, List.length_nil]; omega)
      have w5 := vadds ("road " ++ nt r.1 ++ " " ++ nt r.2.1 ++ " ") (nt r.2.2) (by rw [tl_append, tl_append, tl_append, tl_append, tl_roadS, tl_space]; simp only [List.length_append, List.length_cons, List.length_nil]; omega)
      have g := append_ok (st := S ++ [.lst (.str (spaced (townW t)) :: (t.roads.take i).map fun r => .str (spaced (roadW r)))]) (n := S.length) (y := .str (spaced (roadW r))) (app_get1 rfl) (by simp; omega)
      rw [app_set1 rfl] at g
      have ht : t.roads.take (i + 1) = t.roads.take i ++ [r] := by rw [List.take_succ, hr]; rfl
      simp [roadD, str_int _ q1, str_int _ q2, str_int _ q3, w1, w2, w3, w4, w5, road_cat, isT, -x_adds, -List.map_take]
      rw [g]
      exact ⟨_, _, _, _, _, _, _, _, rfl, by rw [ht]; simp⟩
  · rintro out st q
    cases out with
    | nx env =>
      obtain ⟨x2, x3, x4, x5, x6, x7, x8, x9, rfl, rfl⟩ := q.resolve_right id
      simp only [List.length_map, List.take_length]
      refine seq_w ?_
      simp [i3, pairs_map, -x_sSeq]
      refine Ok.mono (forM_ok (Rl2 S t) (fun _ _ => False) (fun _ _ => False) rfl (fun _ _ _ _ => gd_nil) ?_ ⟨_, _, _, _, _, _, _, _, rfl, by simp [lits]⟩) ?_
      · rintro i d env st hd ⟨x2, x3, x4, x5, x6, x7, x8, x9, rfl, rfl⟩
        obtain ⟨l, hli, rfl⟩ := zi_get hd
        have hi : i < t.lights.length := (List.getElem?_eq_some_iff.mp hli).1
        have ht : t.lights.take (i + 1) = t.lights.take i ++ [l] := by rw [List.take_succ, hli]; rfl
        have hlen : (t.lights.take i).length = i := by rw [List.length_take]; omega
        cases l with
        | none =>
          have nn : ∀ st, vIsN true .non st = .ok (.bl false) st := fun st => rfl
          simp [lightD, nn, -x_isN, -List.map_take]
          refine ⟨_, _, _, _, _, _, _, _, rfl, ?_⟩
          rw [ht, lits_snoc]
          simp
        | some p =>
          have hm : (i, p) ∈ lits t.lights := by
            unfold lits
            exact List.mem_filterMap.mpr ⟨(some p, i), by rw [List.mem_zipIdx_iff_getElem?]; exact hli, rfl⟩
          obtain ⟨hc, hp⟩ := h.lit hm
          have hc : NumOk ((i : Nat) : Int) := hc
          have hp : LightTx p := hp
          have ns : ∀ st, vIsN true (lightD (some p)) st = .ok (.bl true) st := fun st => rfl
          have j0 : ∀ st, vIx (lightD (some p)) (.int 0) st = .ok (.int p.1) st := fun st => by simp [lightD]
          have j1 : ∀ st, vIx (lightD (some p)) (.int 1) st = .ok (.tup (p.2.map rowD)) st := fun st => by simp [lightD]
          have h4 := hp.four
          have n1 := hc.len
          have n2 := hp.s.len
          have v1 := vadds "lights " (nt (i : Nat)) (by rw [tl_lightsS]; simp only [List.length_append, List.length_cons, List.length_nil]; omega)
          have v2 := vadds ("lights " ++ nt (i : Nat)) " " (by rw [tl_append, tl_lightsS, tl_space]; simp only [List.length_append, List.length_cons, List.length_nil]; omega)
          have v3 := vadds ("lights " ++ nt (i : Nat) ++ " ") (nt p.1) (by rw [tl_append, tl_append, tl_lightsS, tl_space]; simp only [List.length_append, List.length_cons, List.length_nil]; omega)
          have lrow : ∀ r ∈ p.2, (tl ((" " : Str) ++ nt r.1 ++ ":" ++ dashT r.2)).length ≤ 150 := fun r hr => by
            have R := hp.rows r hr
            have b1 := R.b.len
            have b2 := dash_len R.few R.g
            rw [tl_append, tl_append, tl_append, tl_space, tl_colon]
            simp only [List.length_append, List.length_cons, List.length_nil]
            omega
          have hj : ∀ st, mJoin (.str "") [.lst (p.2.map fun r => .str ((" " : Str) ++ nt r.1 ++ ":" ++ dashT r.2))] st = .ok (.str (Txt.join "" (p.2.map fun r => (" " : Str) ++ nt r.1 ++ ":" ++ dashT r.2))) st := fun st => by
            have := join_lst (a := "") (ys := p.2.map fun r => (" " : Str) ++ nt r.1 ++ ":" ++ dashT r.2) (by
              have h1 := sum_le (fun s : Str => s.length) 150 (p.2.map fun r => (" " : Str) ++ nt r.1 ++ ":" ++ dashT r.2) (fun x hx => by
                obtain ⟨r, hr, rfl⟩ := List.mem_map.mp hx
                rw [len_str]; exact lrow r hr)
              have h2 : ("" : Str).length = 0 := by decide +kernel
              rw [h2]
              simp only [List.length_map] at h1 ⊢
              omega) st
            rw [List.map_map] at this
            exact this
          have jlen : (tl (Txt.join "" (p.2.map fun r => (" " : Str) ++ nt r.1 ++ ":" ++ dashT r.2))).length ≤ 600 := by
            rw [tl_joinT, tl_empty]
            have := joinL_len [] 150 ((p.2.map fun r => (" " : Str) ++ nt r.1 ++ ":" ++ dashT r.2).map tl) fun q hq => by
              rw [List.map_map] at hq
              obtain ⟨r, hr, rfl⟩ := List.mem_map.mp hq
              exact lrow r hr
            simp only [List.length_map, List.length_nil] at this
            omega
          have v4 := vadds ("lights " ++ nt (i : Nat) ++ " " ++ nt p.1) (Txt.join "" (p.2.map fun r => (" " : Str) ++ nt r.1 ++ ":" ++ dashT r.2)) (by rw [tl_append, tl_append, tl_append, tl_lightsS, tl_space]; simp only [List.length_append, List.length_cons, List.length_nil]; omega)
          simp [ns, -x_isN, -x_sSeq, -List.map_take]
          refine seq_w ?_
          simp [j1, le_line (show p.2.length ≤ 1000 by omega), rows_comp hp.rows, -List.map_take]
          have g := append_ok (st := S ++ [.lst ((.str (spaced (townW t)) :: t.roads.map fun r => .str (spaced (roadW r))) ++ (lits (t.lights.take i)).map fun q => .str (spaced (lightW (q.1 : Nat) q.2)))]) (n := S.length) (y := .str (spaced (lightW (i : Nat) p))) (app_get1 rfl) (by
            have := lits_len (t.lights.take i)
            simp
            omega)
          rw [app_set1 rfl] at g
          rw [List.cons_append] at g
          simp [isT, isTstr, str_int _ hc, str_int _ hp.s, j0, v1, v2, v3, hj, v4, light_cat, -x_adds, -List.map_take, g]
          refine ⟨_, _, _, _, _, _, _, _, rfl, ?_⟩
          rw [ht, lits_snoc, hlen]
          simp
      · rintro out st q
        cases out with
        | nx env =>
          obtain ⟨x2, x3, x4, x5, x6, x7, x8, x9, rfl, rfl⟩ := q.resolve_right id
          simp only [List.length_map, List.length_zipIdx, List.take_length]
          have e : (D.str (spaced (townW t)) :: t.roads.map fun r => D.str (spaced (roadW r))) ++ (lits t.lights).map (fun q => D.str (spaced (lightW (q.1 : Nat) q.2))) = (townWs t).map fun ws => D.str (spaced ws) := by
            unfold townWs lightWs
            simp
            rfl
          rw [e]
          simp
          rw [fin_newlist (nrs_map (fun ws => D.str (spaced ws)) (fun _ => rfl) _)]
          exact ⟨rfl, rfl⟩
        | _ => exact q.elim
    | _ => exact q.elim
theorem fin_keep (S : Sto) (d : D) (st : Sto) : fin .keep S d st = .ok d st := by
  unfold fin
  split <;> rfl
theorem town_text_ok {t : Town} (ht : GenA t) (st : Sto) : m_town_text [townD t] st = .ok (.str (townTx t)) st := by
  unfold m_town_text b_town_text m_need_town b_need_town
  simp [envOf, town_ok t _ ht.small, ht.ok, town_by_ok ht.text]
theorem ne_str (s : Str) (st : Sto) : vNe (.str s) (.str s) st = .ok (.bl false) st := by
  have e : eqD st (.str s) (.str s) = some true := by simp [eqD, scalV, scal]
  unfold vNe
  rw [e]; rfl
structure TuInv (ns : List Int) (p i : Nat) (env : Ev) (st : Sto) : Prop where
  ex : ∃ (x1 x3 x4 x5 x6 x7 x8 : Option D) (o : O), env = [some (.scr ns), x1, some (.ref p), x3, x4, x5, x6, x7, x8] ∧ st[p]? = some o ∧ PenOk (300000 * i) o
structure OuInv (ns : List Int) (i : Nat) (env : Ev) (st : Sto) : Prop where
  ex : ∃ (x1 x2 x3 x4 x5 x6 x7 x8 : Option D), env = [some (.scr ns), x1, x2, x3, x4, x5, x6, x7, x8]
theorem law_plain (ns : List Int) (hl : ns.length ≤ 63) : ∃ st, m_law [.scr ns] [] = .ok (.bl true) st := by
  suffices hs : Ok (fun d _ => d = .bl true) (m_law [.scr ns] []) by
    obtain ⟨a, st, e, rfl⟩ := hs.ex
    exact ⟨st, e⟩
  unfold m_law b_law
  refine fn_w (seq_w ?_)
  have hmm : ∃ m : Int, (if (if (4 : Int) < (ns.length : Int) then (4 : Int) else (ns.length : Int)) > 1 then (if (4 : Int) < (ns.length : Int) then (4 : Int) else (ns.length : Int)) else 1) = m ∧ 0 ≤ m ∧ m ≤ 4 := by
    refine ⟨_, rfl, ?_, ?_⟩ <;> (split <;> split <;> omega)
  obtain ⟨m, hm, m0, m3⟩ := hmm
  have hbm : -4611686018427387904 ≤ m ∧ m < 4611686018427387904 := by omega
  simp only [gt_iff_lt] at hm
  simp [envOf, hm, hbm, -x_sSeq, List.replicate]
  refine Ok.mono (forM_ok (OuInv ns) (fun _ _ => False) (fun _ _ => False) rfl (fun _ _ _ _ => gd_nil) ?_ ⟨_, _, _, _, _, _, _, _, rfl⟩) ?_
  · rintro k d env S hd ⟨x1, x2, x3, x4, x5, x6, x7, x8, rfl⟩
    obtain ⟨rfl, hk⟩ := range_get hd
    obtain ⟨z, hz⟩ := cell_ok ns k S
    obtain ⟨o, hpen, po⟩ := pen_ok z S
    simp only [x_gNm, ok_ok]
    refine seq_w ?_
    simp [hz, hpen, -x_sSeq]
    refine Ok.mono (forM_ok (TuInv ns S.length) (fun _ _ => False) (fun _ _ => False) rfl (fun _ _ _ _ => gd_nil) ?_ ⟨_, _, _, _, _, _, _, o, rfl, by simp, po⟩) ?_
    · generalize S.length = p
      clear hz hpen po hd
      clear S o
      rintro i d env S hd ⟨x1, x3, x4, x5, x6, x7, x8, o, rfl, ho, po⟩
      have hi : i < 4 := by
        have := (List.getElem?_eq_some_iff.mp hd).1
        simpa using this
      have hl := lt_get ho
      simp only [x_gNm, ok_ok]
      refine seq_w ?_
      simp [-x_sSeq]
      refine townA_ok ho po (by omega) fun t o1 ht p1 => ?_
      have htx := ht.text
      have hsh := (town_shows htx).1
      have r1 := repr_ok hsh
      have hlen := townTx_len htx
      have hst : Shows (.str (townTx t)) := shows_str (asc_town htx) (by rw [len_str]; omega)
      have r2 := repr_ok hst
      have tt := town_text_ok ht
      have rd := read_ok ht.ok ht.small htx
      refine seq_w ?_
      have h17 := townWs_len htx
      have nlw : ∀ l ∈ (townWs t).map spaced, (tl l).length ≤ 1440 := fun l hm => by
        obtain ⟨ws, hw, rfl⟩ := List.mem_map.mp hm
        exact line_len (town_words htx ws hw)
      have jn : ∀ st, mJoin (.str "") [.lst ((townWs t).map fun ws => .str (spaced ws ++ "\n"))] st = .ok (.str (townTx t)) st := fun st => by
        have := join_nl (ls := (townWs t).map spaced) (by rw [List.length_map]; omega) nlw st
        rw [List.map_map, List.map_map] at this
        exact this
      have ln := lines_ok htx (S.set p o1)
      have wl : (townWs t).length ≤ sizeLine := le_line (by omega)
      simp [r1, ln, wl, -x_sSeq]
      rw [compM_map (xs := townWs t) (k := fun ws => D.str (spaced ws)) (fun ws => .str (spaced ws ++ "\n"))]
      · simp [isTstr, jn, -x_sSeq]
        refine seq_w ?_
        simp [-x_sSeq]
        refine Ok.mono (forM_ok (fun _ env st => ∃ x8 : Option D, env = [some (.scr ns), x1, some (.ref p), some d, some (townD t), some (.str (townD t).rep), some (.str (townTx t)), x7, x8] ∧ st = S.set p o1) (fun _ _ => False) (fun _ _ => False) rfl (fun _ _ _ _ => gd_nil) ?_ ⟨_, rfl, rfl⟩) ?_
        · rintro j d2 env st2 hd2 ⟨x8', rfl, rfl⟩
          simp [tt, r1, r2, ne_str, rd]
        · rintro out st q
          cases out with
          | nx env =>
            obtain ⟨x8', rfl, rfl⟩ := q.resolve_right id
            simp [r1, ne_str]
            exact ⟨_, _, _, _, _, _, _, o1, rfl, get_set hl, p1.mono (by omega)⟩
          | _ => exact q.elim
      · intro ws hw
        have h1 := line_len (town_words htx ws hw)
        have v := vadds (spaced ws) "\n" (by rw [tl_nl]; simp only [List.length_cons, List.length_nil]; omega)
        simp [v, -x_adds]
    · rintro out st q
      cases out with
      | nx env =>
        obtain ⟨x1, x3, x4, x5, x6, x7, x8, o, rfl, ho, po⟩ := q.resolve_right id
        exact ⟨_, _, _, _, _, _, _, _, rfl⟩
      | _ => exact q.elim
  · rintro out st q
    cases out with
    | nx env =>
      simp
    | _ => exact q.elim
end LB
/- ===== Drv ===== -/
set_option Elab.async false
set_option linter.all false
set_option maxRecDepth 100000
set_option maxHeartbeats 0
set_option autoImplicit false
namespace LB
open PySem PySem.Spec PyProof.Rows L2
/-! ## the text's top, what the head finds -/
def top (i : Nat) : Stmt := PySem.Challenge.pw_lanebeats_k80_towns_written_and_read.main.body.getD i (.Pass ⟨0, 0, 0, 0⟩)
def d_is_whole : He.DefD := ⟨("is_whole", none), "is_whole", "is_whole", defArgs (top 10), defBody (top 10), defScope (top 10), [], []⟩
def d_is_among : He.DefD := ⟨("is_among", none), "is_among", "is_among", defArgs (top 11), defBody (top 11), defScope (top 11), [], []⟩
def d_is_row : He.DefD := ⟨("is_row", none), "is_row", "is_row", defArgs (top 12), defBody (top 12), defScope (top 12), [], []⟩
def d_are_rising : He.DefD := ⟨("are_rising", none), "are_rising", "are_rising", defArgs (top 13), defBody (top 13), defScope (top 13), [], []⟩
def d_is_road_row : He.DefD := ⟨("is_road_row", none), "is_road_row", "is_road_row", defArgs (top 14), defBody (top 14), defScope (top 14), [], []⟩
def d_is_turn : He.DefD := ⟨("is_turn", none), "is_turn", "is_turn", defArgs (top 15), defBody (top 15), defScope (top 15), [], []⟩
def d_are_lights : He.DefD := ⟨("are_lights", none), "are_lights", "are_lights", defArgs (top 16), defBody (top 16), defScope (top 16), [], []⟩
def d_ends_at : He.DefD := ⟨("ends_at", none), "ends_at", "ends_at", defArgs (top 17), defBody (top 17), defScope (top 17), [], []⟩
def d_is_town : He.DefD := ⟨("is_town", none), "is_town", "is_town", defArgs (top 18), defBody (top 18), defScope (top 18), [], []⟩
def d_need_town : He.DefD := ⟨("need_town", none), "need_town", "need_town", defArgs (top 19), defBody (top 19), defScope (top 19), [], []⟩
def d_numbers_text : He.DefD := ⟨("numbers_text", none), "numbers_text", "numbers_text", defArgs (top 24), defBody (top 24), defScope (top 24), [], []⟩
def d_lights_text : He.DefD := ⟨("lights_text", none), "lights_text", "lights_text", defArgs (top 25), defBody (top 25), defScope (top 25), [], []⟩
def d_town_by : He.DefD := ⟨("town_by", none), "town_by", "town_by", defArgs (top 26), defBody (top 26), defScope (top 26), [], []⟩
def d_town_text : He.DefD := ⟨("town_text", none), "town_text", "town_text", defArgs (top 27), defBody (top 27), defScope (top 27), [], []⟩
def d_number_in : He.DefD := ⟨("number_in", none), "number_in", "number_in", defArgs (top 28), defBody (top 28), defScope (top 28), [], []⟩
def d_numbers_in : He.DefD := ⟨("numbers_in", none), "numbers_in", "numbers_in", defArgs (top 29), defBody (top 29), defScope (top 29), [], []⟩
def d_roads_in : He.DefD := ⟨("roads_in", none), "roads_in", "roads_in", defArgs (top 30), defBody (top 30), defScope (top 30), [], []⟩
def d_turn_in : He.DefD := ⟨("turn_in", none), "turn_in", "turn_in", defArgs (top 31), defBody (top 31), defScope (top 31), [], []⟩
def d_numbers_line : He.DefD := ⟨("numbers_line", none), "numbers_line", "numbers_line", defArgs (top 32), defBody (top 32), defScope (top 32), [], []⟩
def d_lights_line : He.DefD := ⟨("lights_line", none), "lights_line", "lights_line", defArgs (top 33), defBody (top 33), defScope (top 33), [], []⟩
def d_lines_in : He.DefD := ⟨("lines_in", none), "lines_in", "lines_in", defArgs (top 34), defBody (top 34), defScope (top 34), [], []⟩
def d_town_line : He.DefD := ⟨("town_line", none), "town_line", "town_line", defArgs (top 35), defBody (top 35), defScope (top 35), [], []⟩
def d_made_of : He.DefD := ⟨("made_of", none), "made_of", "made_of", defArgs (top 36), defBody (top 36), defScope (top 36), [], []⟩
def d_read_town : He.DefD := ⟨("read_town", none), "read_town", "read_town", defArgs (top 37), defBody (top 37), defScope (top 37), [], []⟩
def d_l_cell_at : He.DefD := ⟨("_law_cell_at", none), "_law_cell_at", "_law_cell_at", defArgs (top 39), defBody (top 39), defScope (top 39), [], []⟩
def d_l_pen : He.DefD := ⟨("_law_pen", none), "_law_pen", "_law_pen", defArgs (top 40), defBody (top 40), defScope (top 40), [], []⟩
def d_l_draw : He.DefD := ⟨("_law_draw", none), "_law_draw", "_law_draw", defArgs (top 41), defBody (top 41), defScope (top 41), [], []⟩
def d_l_lights : He.DefD := ⟨("_law_lights", none), "_law_lights", "_law_lights", defArgs (top 42), defBody (top 42), defScope (top 42), [], []⟩
def d_l_town : He.DefD := ⟨("_law_town", none), "_law_town", "_law_town", defArgs (top 43), defBody (top 43), defScope (top 43), [], []⟩
def d_l_commas : He.DefD := ⟨("_law_commas", none), "_law_commas", "_law_commas", defArgs (top 44), defBody (top 44), defScope (top 44), [], []⟩
def d_l_town_lines : He.DefD := ⟨("_law_town_lines", none), "_law_town_lines", "_law_town_lines", defArgs (top 45), defBody (top 45), defScope (top 45), [], []⟩
def d_law : He.DefD := ⟨("law", none), "law", "law", defArgs (top 46), defBody (top 46), defScope (top 46), [], []⟩
def fn : List He.DefD := ([d_is_whole, d_is_among, d_is_row, d_are_rising, d_is_road_row, d_is_turn, d_are_lights, d_ends_at, d_is_town, d_need_town, d_numbers_text, d_lights_text, d_town_by, d_town_text, d_number_in, d_numbers_in] : List He.DefD) ++ ([d_roads_in, d_turn_in, d_numbers_line, d_lights_line, d_lines_in, d_town_line, d_made_of, d_read_town, d_l_cell_at, d_l_pen, d_l_draw, d_l_lights, d_l_town, d_l_commas, d_l_town_lines, d_law] : List He.DefD)
def fa : List He.Fa := ([.glo "is_whole", .glo "is_among", .glo "is_row", .glo "are_rising", .glo "is_road_row", .glo "is_turn", .glo "are_lights", .glo "ends_at", .glo "is_town", .glo "need_town", .glo "numbers_text", .glo "lights_text", .glo "town_by", .glo "town_text", .glo "number_in", .glo "numbers_in"] : List He.Fa) ++ ([.glo "roads_in", .glo "turn_in", .glo "numbers_line", .glo "lights_line", .glo "lines_in", .glo "town_line", .glo "made_of", .glo "read_town", .glo "_law_cell_at", .glo "_law_pen", .glo "_law_draw", .glo "_law_lights", .glo "_law_town", .glo "_law_commas", .glo "_law_town_lines", .glo "law"] : List He.Fa) ++ ([.free "all", .free "bool", .free "enumerate", .free "int", .free "isinstance", .free "len", .free "list", .free "max", .free "min", .free "range", .free "repr", .free "str", .free "sum", .free "tuple", .free "zip", .int "MOST_CROSSINGS" 6] : List He.Fa) ++ ([.int "MOST_FIGURES" 12, .int "MOST_LONG" 5, .int "MOST_ROADS" 10, .int "MOST_ROUND" 12, .int "MOST_ROWS" 4, .str "FIGURES" "0123456789", .str "NONE" "-"] : List He.Fa)
def loose : List Str := (["LaneError", "NoTown", "NoText", "MOST_CROSSINGS", "MOST_ROUND", "MOST_ROADS", "MOST_LONG", "MOST_ROWS", "is_whole", "is_among", "is_row", "are_rising", "is_road_row", "is_turn", "are_lights", "ends_at"] : List Str) ++ (["is_town", "need_town", "MOST_FIGURES", "FIGURES", "NONE", "numbers_text", "lights_text", "town_by", "town_text", "number_in", "numbers_in", "roads_in", "turn_in", "numbers_line", "lights_line", "lines_in"] : List Str) ++ (["town_line", "made_of", "read_town", "_law_cell_at", "_law_pen", "_law_draw", "_law_lights", "_law_town", "_law_commas", "_law_town_lines"] : List Str)
abbrev R : PySem.W.OpenRow := PySem.W.OpenLaw.row PySem.Challenge.rw_lanebeats_k80_towns_written_and_read
abbrev hk : PySem.W.Hook := He.hookD 4 fa fn
def ob (s : PySem.W.SharedT) : He.AlD := He.obsDG 4 fa fn (HandSHeadRun.getT s)
theorem ob_eq (s : PySem.W.SharedT) : ob s = hk.obs s.abs := He.obsDG_eq (HandSHeadRun.getT_eq s)
theorem run (w : World) : HandSHeadRun.RunEq R (PySem.W.view R.prog [46]) hk ob 6000 loose w := by
  intro os
  kernel_rfl
structure Fx (K : PySem.W.Frag) (mg : Str → Option Value) : Prop where
  c : He.SaysD fa fn K
  h : ∃ h : Heap, K.In h ∧ h.Ns mainGlobals mg
section
variable {K : PySem.W.Frag} {mg : Str → Option Value} (Y : Fx K mg)
include Y
theorem Fx.g_is_whole : mg "is_whole" = some (.ref (He.ga K "is_whole")) := by
  obtain ⟨_, X, G⟩ := Y.h
  exact He.glo_ok X G (Y.c.fact 0 (f := .glo "is_whole") rfl)
theorem Fx.g_is_among : mg "is_among" = some (.ref (He.ga K "is_among")) := by
  obtain ⟨_, X, G⟩ := Y.h
  exact He.glo_ok X G (Y.c.fact 1 (f := .glo "is_among") rfl)
theorem Fx.g_is_row : mg "is_row" = some (.ref (He.ga K "is_row")) := by
  obtain ⟨_, X, G⟩ := Y.h
  exact He.glo_ok X G (Y.c.fact 2 (f := .glo "is_row") rfl)
theorem Fx.g_are_rising : mg "are_rising" = some (.ref (He.ga K "are_rising")) := by
  obtain ⟨_, X, G⟩ := Y.h
  exact He.glo_ok X G (Y.c.fact 3 (f := .glo "are_rising") rfl)
theorem Fx.g_is_road_row : mg "is_road_row" = some (.ref (He.ga K "is_road_row")) := by
  obtain ⟨_, X, G⟩ := Y.h
  exact He.glo_ok X G (Y.c.fact 4 (f := .glo "is_road_row") rfl)
theorem Fx.g_is_turn : mg "is_turn" = some (.ref (He.ga K "is_turn")) := by
  obtain ⟨_, X, G⟩ := Y.h
  exact He.glo_ok X G (Y.c.fact 5 (f := .glo "is_turn") rfl)
theorem Fx.g_are_lights : mg "are_lights" = some (.ref (He.ga K "are_lights")) := by
  obtain ⟨_, X, G⟩ := Y.h
  exact He.glo_ok X G (Y.c.fact 6 (f := .glo "are_lights") rfl)
theorem Fx.g_ends_at : mg "ends_at" = some (.ref (He.ga K "ends_at")) := by
  obtain ⟨_, X, G⟩ := Y.h
  exact He.glo_ok X G (Y.c.fact 7 (f := .glo "ends_at") rfl)
theorem Fx.g_is_town : mg "is_town" = some (.ref (He.ga K "is_town")) := by
  obtain ⟨_, X, G⟩ := Y.h
  exact He.glo_ok X G (Y.c.fact 8 (f := .glo "is_town") rfl)
theorem Fx.g_need_town : mg "need_town" = some (.ref (He.ga K "need_town")) := by
  obtain ⟨_, X, G⟩ := Y.h
  exact He.glo_ok X G (Y.c.fact 9 (f := .glo "need_town") rfl)
theorem Fx.g_numbers_text : mg "numbers_text" = some (.ref (He.ga K "numbers_text")) := by
  obtain ⟨_, X, G⟩ := Y.h
  exact He.glo_ok X G (Y.c.fact 10 (f := .glo "numbers_text") rfl)
theorem Fx.g_lights_text : mg "lights_text" = some (.ref (He.ga K "lights_text")) := by
  obtain ⟨_, X, G⟩ := Y.h
  exact He.glo_ok X G (Y.c.fact 11 (f := .glo "lights_text") rfl)
theorem Fx.g_town_by : mg "town_by" = some (.ref (He.ga K "town_by")) := by
  obtain ⟨_, X, G⟩ := Y.h
  exact He.glo_ok X G (Y.c.fact 12 (f := .glo "town_by") rfl)
theorem Fx.g_town_text : mg "town_text" = some (.ref (He.ga K "town_text")) := by
  obtain ⟨_, X, G⟩ := Y.h
  exact He.glo_ok X G (Y.c.fact 13 (f := .glo "town_text") rfl)
theorem Fx.g_number_in : mg "number_in" = some (.ref (He.ga K "number_in")) := by
  obtain ⟨_, X, G⟩ := Y.h
  exact He.glo_ok X G (Y.c.fact 14 (f := .glo "number_in") rfl)
theorem Fx.g_numbers_in : mg "numbers_in" = some (.ref (He.ga K "numbers_in")) := by
  obtain ⟨_, X, G⟩ := Y.h
  exact He.glo_ok X G (Y.c.fact 15 (f := .glo "numbers_in") rfl)
theorem Fx.g_roads_in : mg "roads_in" = some (.ref (He.ga K "roads_in")) := by
  obtain ⟨_, X, G⟩ := Y.h
  exact He.glo_ok X G (Y.c.fact 16 (f := .glo "roads_in") rfl)
theorem Fx.g_turn_in : mg "turn_in" = some (.ref (He.ga K "turn_in")) := by
  obtain ⟨_, X, G⟩ := Y.h
  exact He.glo_ok X G (Y.c.fact 17 (f := .glo "turn_in") rfl)
theorem Fx.g_numbers_line : mg "numbers_line" = some (.ref (He.ga K "numbers_line")) := by
  obtain ⟨_, X, G⟩ := Y.h
  exact He.glo_ok X G (Y.c.fact 18 (f := .glo "numbers_line") rfl)
theorem Fx.g_lights_line : mg "lights_line" = some (.ref (He.ga K "lights_line")) := by
  obtain ⟨_, X, G⟩ := Y.h
  exact He.glo_ok X G (Y.c.fact 19 (f := .glo "lights_line") rfl)
theorem Fx.g_lines_in : mg "lines_in" = some (.ref (He.ga K "lines_in")) := by
  obtain ⟨_, X, G⟩ := Y.h
  exact He.glo_ok X G (Y.c.fact 20 (f := .glo "lines_in") rfl)
theorem Fx.g_town_line : mg "town_line" = some (.ref (He.ga K "town_line")) := by
  obtain ⟨_, X, G⟩ := Y.h
  exact He.glo_ok X G (Y.c.fact 21 (f := .glo "town_line") rfl)
theorem Fx.g_made_of : mg "made_of" = some (.ref (He.ga K "made_of")) := by
  obtain ⟨_, X, G⟩ := Y.h
  exact He.glo_ok X G (Y.c.fact 22 (f := .glo "made_of") rfl)
theorem Fx.g_read_town : mg "read_town" = some (.ref (He.ga K "read_town")) := by
  obtain ⟨_, X, G⟩ := Y.h
  exact He.glo_ok X G (Y.c.fact 23 (f := .glo "read_town") rfl)
theorem Fx.g_l_cell_at : mg "_law_cell_at" = some (.ref (He.ga K "_law_cell_at")) := by
  obtain ⟨_, X, G⟩ := Y.h
  exact He.glo_ok X G (Y.c.fact 24 (f := .glo "_law_cell_at") rfl)
theorem Fx.g_l_pen : mg "_law_pen" = some (.ref (He.ga K "_law_pen")) := by
  obtain ⟨_, X, G⟩ := Y.h
  exact He.glo_ok X G (Y.c.fact 25 (f := .glo "_law_pen") rfl)
theorem Fx.g_l_draw : mg "_law_draw" = some (.ref (He.ga K "_law_draw")) := by
  obtain ⟨_, X, G⟩ := Y.h
  exact He.glo_ok X G (Y.c.fact 26 (f := .glo "_law_draw") rfl)
theorem Fx.g_l_lights : mg "_law_lights" = some (.ref (He.ga K "_law_lights")) := by
  obtain ⟨_, X, G⟩ := Y.h
  exact He.glo_ok X G (Y.c.fact 27 (f := .glo "_law_lights") rfl)
theorem Fx.g_l_town : mg "_law_town" = some (.ref (He.ga K "_law_town")) := by
  obtain ⟨_, X, G⟩ := Y.h
  exact He.glo_ok X G (Y.c.fact 28 (f := .glo "_law_town") rfl)
theorem Fx.g_l_commas : mg "_law_commas" = some (.ref (He.ga K "_law_commas")) := by
  obtain ⟨_, X, G⟩ := Y.h
  exact He.glo_ok X G (Y.c.fact 29 (f := .glo "_law_commas") rfl)
theorem Fx.g_l_town_lines : mg "_law_town_lines" = some (.ref (He.ga K "_law_town_lines")) := by
  obtain ⟨_, X, G⟩ := Y.h
  exact He.glo_ok X G (Y.c.fact 30 (f := .glo "_law_town_lines") rfl)
theorem Fx.g_law : mg "law" = some (.ref (He.ga K "law")) := by
  obtain ⟨_, X, G⟩ := Y.h
  exact He.glo_ok X G (Y.c.fact 31 (f := .glo "law") rfl)
theorem Fx.f_all : mg "all" = none := by
  obtain ⟨_, X, G⟩ := Y.h
  exact He.free_ok X G (Y.c.fact 32 (f := .free "all") rfl)
theorem Fx.f_bool : mg "bool" = none := by
  obtain ⟨_, X, G⟩ := Y.h
  exact He.free_ok X G (Y.c.fact 33 (f := .free "bool") rfl)
theorem Fx.f_enumerate : mg "enumerate" = none := by
  obtain ⟨_, X, G⟩ := Y.h
  exact He.free_ok X G (Y.c.fact 34 (f := .free "enumerate") rfl)
theorem Fx.f_int : mg "int" = none := by
  obtain ⟨_, X, G⟩ := Y.h
  exact He.free_ok X G (Y.c.fact 35 (f := .free "int") rfl)
theorem Fx.f_isinstance : mg "isinstance" = none := by
  obtain ⟨_, X, G⟩ := Y.h
  exact He.free_ok X G (Y.c.fact 36 (f := .free "isinstance") rfl)
theorem Fx.f_len : mg "len" = none := by
  obtain ⟨_, X, G⟩ := Y.h
  exact He.free_ok X G (Y.c.fact 37 (f := .free "len") rfl)
theorem Fx.f_list : mg "list" = none := by
  obtain ⟨_, X, G⟩ := Y.h
  exact He.free_ok X G (Y.c.fact 38 (f := .free "list") rfl)
theorem Fx.f_max : mg "max" = none := by
  obtain ⟨_, X, G⟩ := Y.h
  exact He.free_ok X G (Y.c.fact 39 (f := .free "max") rfl)
theorem Fx.f_min : mg "min" = none := by
  obtain ⟨_, X, G⟩ := Y.h
  exact He.free_ok X G (Y.c.fact 40 (f := .free "min") rfl)
theorem Fx.f_range : mg "range" = none := by
  obtain ⟨_, X, G⟩ := Y.h
  exact He.free_ok X G (Y.c.fact 41 (f := .free "range") rfl)
theorem Fx.f_repr : mg "repr" = none := by
  obtain ⟨_, X, G⟩ := Y.h
  exact He.free_ok X G (Y.c.fact 42 (f := .free "repr") rfl)
theorem Fx.f_str : mg "str" = none := by
  obtain ⟨_, X, G⟩ := Y.h
  exact He.free_ok X G (Y.c.fact 43 (f := .free "str") rfl)
theorem Fx.f_sum : mg "sum" = none := by
  obtain ⟨_, X, G⟩ := Y.h
  exact He.free_ok X G (Y.c.fact 44 (f := .free "sum") rfl)
theorem Fx.f_tuple : mg "tuple" = none := by
  obtain ⟨_, X, G⟩ := Y.h
  exact He.free_ok X G (Y.c.fact 45 (f := .free "tuple") rfl)
theorem Fx.f_zip : mg "zip" = none := by
  obtain ⟨_, X, G⟩ := Y.h
  exact He.free_ok X G (Y.c.fact 46 (f := .free "zip") rfl)
theorem Fx.i_MOST_CROSSINGS : ∃ t, mg "MOST_CROSSINGS" = some (.int 6 t) := by
  obtain ⟨_, X, G⟩ := Y.h
  exact He.int_ok X G (Y.c.fact 47 (f := .int "MOST_CROSSINGS" 6) rfl)
theorem Fx.i_MOST_FIGURES : ∃ t, mg "MOST_FIGURES" = some (.int 12 t) := by
  obtain ⟨_, X, G⟩ := Y.h
  exact He.int_ok X G (Y.c.fact 48 (f := .int "MOST_FIGURES" 12) rfl)
theorem Fx.i_MOST_LONG : ∃ t, mg "MOST_LONG" = some (.int 5 t) := by
  obtain ⟨_, X, G⟩ := Y.h
  exact He.int_ok X G (Y.c.fact 49 (f := .int "MOST_LONG" 5) rfl)
theorem Fx.i_MOST_ROADS : ∃ t, mg "MOST_ROADS" = some (.int 10 t) := by
  obtain ⟨_, X, G⟩ := Y.h
  exact He.int_ok X G (Y.c.fact 50 (f := .int "MOST_ROADS" 10) rfl)
theorem Fx.i_MOST_ROUND : ∃ t, mg "MOST_ROUND" = some (.int 12 t) := by
  obtain ⟨_, X, G⟩ := Y.h
  exact He.int_ok X G (Y.c.fact 51 (f := .int "MOST_ROUND" 12) rfl)
theorem Fx.i_MOST_ROWS : ∃ t, mg "MOST_ROWS" = some (.int 4 t) := by
  obtain ⟨_, X, G⟩ := Y.h
  exact He.int_ok X G (Y.c.fact 52 (f := .int "MOST_ROWS" 4) rfl)
theorem Fx.s_FIGURES : ∃ t, mg "FIGURES" = some (.str "0123456789" t) := by
  obtain ⟨_, X, G⟩ := Y.h
  exact He.str_ok X G (Y.c.fact 53 (f := .str "FIGURES" "0123456789") rfl)
theorem Fx.s_NONE : ∃ t, mg "NONE" = some (.str "-" t) := by
  obtain ⟨_, X, G⟩ := Y.h
  exact He.str_ok X G (Y.c.fact 54 (f := .str "NONE" "-") rfl)
end
section
variable {P : Program} {w : World} {K : PySem.W.Frag} {mg : Str → Option Value} {base : Heap} (Y : Fx K mg)
include Y
theorem k_is_whole : Known P w K mg base "is_whole" ["thing"] m_is_whole 1 := by
  obtain ⟨fd, F⟩ := Y.c.def_ 0 (d := d_is_whole) rfl
  have S : FnScope (["thing"] : List Str) (["thing"] : List Str) (defScope (top 10)) := ⟨rfl, rfl, rfl, by decide +kernel, rfl, by decide +kernel, by decide +kernel⟩
  exact Known.of F Y.g_is_whole S (fun _ _ _ _ _ _ us hl => match us, hl with | [_], _ => rfl) fun cdv A outer sh H E cx =>
    (rb_one (rs_ret (re_and (re_isInt Y.f_isinstance Y.f_int (re_var 0)) (re_one (re_not (re_isBool Y.f_isinstance Y.f_bool (re_var 0)))))))
theorem k_is_among : Known P w K mg base "is_among" ["thing", "low", "high"] m_is_among 2 := by
  obtain ⟨fd, F⟩ := Y.c.def_ 1 (d := d_is_among) rfl
  have S : FnScope (["thing", "low", "high"] : List Str) (["thing", "low", "high"] : List Str) (defScope (top 11)) := ⟨rfl, rfl, rfl, by decide +kernel, rfl, by decide +kernel, by decide +kernel⟩
  exact Known.of F Y.g_is_among S (fun _ _ _ _ _ _ us hl => match us, hl with | [_, _, _], _ => rfl) fun cdv A outer sh H E cx =>
    (rb_one (rs_ret (re_and (re_fn (k_is_whole Y) cx (ra_cons (re_var 0) ra_nil)) (re_one (re_chain op_le op_le v2_icmp v2_icmp (re_var 1) (re_var 0) (re_var 2))))))
theorem k_is_row : Known P w K mg base "is_row" ["thing", "low", "high"] m_is_row 1 := by
  obtain ⟨fd, F⟩ := Y.c.def_ 2 (d := d_is_row) rfl
  have S : FnScope (["thing", "low", "high"] : List Str) (["thing", "low", "high"] : List Str) (defScope (top 12)) := ⟨rfl, rfl, rfl, by decide +kernel, rfl, by decide +kernel, by decide +kernel⟩
  exact Known.of F Y.g_is_row S (fun _ _ _ _ _ _ us hl => match us, hl with | [_, _, _], _ => rfl) fun cdv A outer sh H E cx =>
    (rb_one (rs_ret (re_and (re_isTuple Y.f_isinstance Y.f_tuple (re_var 0)) (re_one (re_chain op_le op_le v2_icmp v2_icmp (re_var 1) (re_len Y.f_len (ra_cons (re_var 0) ra_nil)) (re_var 2))))))
theorem k_are_rising : Known P w K mg base "are_rising" ["numbers"] m_are_rising 1 := by
  obtain ⟨fd, F⟩ := Y.c.def_ 3 (d := d_are_rising) rfl
  have S : FnScope (["numbers", "one", "other"] : List Str) (["numbers"] : List Str) (defScope (top 13)) := ⟨rfl, rfl, rfl, by decide +kernel, rfl, by decide +kernel, by decide +kernel⟩
  exact Known.of F Y.g_are_rising S (fun _ _ _ _ _ _ us hl => match us, hl with | [_], _ => rfl) fun cdv A outer sh H E cx =>
    (rb_one (rs_ret (re_all Y.f_all cx.hc (ra_cons (re_lc ⟨cx.hc, S.nd, (ri_zip rfl Y.f_zip (re_var 0) (re_sl (re_var 0) (ro_some re_int) ro_none)), blkOk_by (own := [("one", 1), ("other", 2)]) (by kernel_rfl), fun _ _ _ _ _ => (rg_tup cx.blk.hc (rgs_cons (rg_name S.nd rfl (by first | exact Or.inl rfl | exact Or.inr rfl)) (rgs_cons (rg_name S.nd rfl (by first | exact Or.inl rfl | exact Or.inr rfl)) rgs_nil))), fun _ _ _ _ _ => rts_nil, fun _ _ _ _ _ => (re_cmp op_lt v2_icmp (by rfl) (re_var 1) (re_var 2)), rfl⟩) ra_nil))))
theorem k_is_road_row : Known P w K mg base "is_road_row" ["thing", "crossings"] m_is_road_row 3 := by
  obtain ⟨fd, F⟩ := Y.c.def_ 4 (d := d_is_road_row) rfl
  have S : FnScope (["thing", "crossings", "one"] : List Str) (["thing", "crossings"] : List Str) (defScope (top 14)) := ⟨rfl, rfl, rfl, by decide +kernel, rfl, by decide +kernel, by decide +kernel⟩
  exact Known.of F Y.g_is_road_row S (fun _ _ _ _ _ _ us hl => match us, hl with | [_, _], _ => rfl) fun cdv A outer sh H E cx =>
    (rb_cons (rs_if (rt_w (rw_or (rt_not (rt_truth (re_fn (k_is_row Y) cx (ra_cons (re_var 0) (ra_cons re_int (ra_cons re_int ra_nil)))))) (rw_or1 (rt_not (rt_truth (re_fn (k_is_among Y) cx (ra_cons (re_ix ix_seq v2_ix (fun _ _ => rfl) (re_var 0) re_int) (ra_cons re_int (ra_cons (re_gi Y.i_MOST_LONG) ra_nil))))))))) (rb_one (rs_ret re_bl)) rb_nil)
    (rb_one (rs_ret (re_all Y.f_all cx.hc (ra_cons (re_lc ⟨cx.hc, S.nd, (ri_seq (re_sl (re_var 0) ro_none (ro_some re_int))), blkOk_by (own := [("one", 2)]) (by kernel_rfl), fun _ _ _ _ _ => (rg_name S.nd rfl (by first | exact Or.inl rfl | exact Or.inr rfl)), fun _ _ _ _ _ => rts_nil, fun _ _ _ _ _ => (re_fn (k_is_among Y) cx.blk (ra_cons (re_var 2) (ra_cons re_int (ra_cons (re_op op_sub v2_sub (re_var 1) re_int) ra_nil)))), rfl⟩) ra_nil)))))
theorem k_is_turn : Known P w K mg base "is_turn" ["thing", "ending"] m_is_turn 3 := by
  obtain ⟨fd, F⟩ := Y.c.def_ 5 (d := d_is_turn) rfl
  have S : FnScope (["thing", "ending", "road"] : List Str) (["thing", "ending"] : List Str) (defScope (top 15)) := ⟨rfl, rfl, rfl, by decide +kernel, rfl, by decide +kernel, by decide +kernel⟩
  exact Known.of F Y.g_is_turn S (fun _ _ _ _ _ _ us hl => match us, hl with | [_, _], _ => rfl) fun cdv A outer sh H E cx =>
    (rb_cons (rs_if (rt_w (rw_or (rt_not (rt_truth (re_fn (k_is_row Y) cx (ra_cons (re_var 0) (ra_cons re_int (ra_cons re_int ra_nil)))))) (rw_or (rt_not (rt_truth (re_fn (k_is_among Y) cx (ra_cons (re_ix ix_seq v2_ix (fun _ _ => rfl) (re_var 0) re_int) (ra_cons re_int (ra_cons (re_gi Y.i_MOST_ROUND) ra_nil)))))) (rw_or1 (rt_not (rt_truth (re_isTuple Y.f_isinstance Y.f_tuple (re_ix ix_seq v2_ix (fun _ _ => rfl) (re_var 0) re_int)))))))) (rb_one (rs_ret re_bl)) rb_nil)
    (rb_one (rs_ret (re_and (re_all Y.f_all cx.hc (ra_cons (re_lc ⟨cx.hc, S.nd, (ri_seq (re_ix ix_seq v2_ix (fun _ _ => rfl) (re_var 0) re_int)), blkOk_by (own := [("road", 2)]) (by kernel_rfl), fun _ _ _ _ _ => (rg_name S.nd rfl (by first | exact Or.inl rfl | exact Or.inr rfl)), fun _ _ _ _ _ => rts_nil, fun _ _ _ _ _ => (re_and (re_fn (k_is_whole Y) cx.blk (ra_cons (re_var 2) ra_nil)) (re_one (re_cmp (op_inA cx.blk) v2_in (by rfl) (re_var 2) (re_var 1)))), rfl⟩) ra_nil)) (re_one (re_fn (k_are_rising Y) cx (ra_cons (re_ix ix_seq v2_ix (fun _ _ => rfl) (re_var 0) re_int) ra_nil)))))))
theorem k_are_lights : Known P w K mg base "are_lights" ["thing", "around", "ending"] m_are_lights 4 := by
  obtain ⟨fd, F⟩ := Y.c.def_ 6 (d := d_are_lights) rfl
  have S : FnScope (["thing", "around", "ending", "turn", "beats", "green"] : List Str) (["thing", "around", "ending"] : List Str) (defScope (top 16)) := ⟨rfl, rfl, rfl, by decide +kernel, rfl, by decide +kernel, by decide +kernel⟩
  exact Known.of F Y.g_are_lights S (fun _ _ _ _ _ _ us hl => match us, hl with | [_, _, _], _ => rfl) fun cdv A outer sh H E cx =>
    (rb_cons (rs_if (rt_isN (re_var 0)) (rb_one (rs_ret re_bl)) rb_nil)
    (rb_cons (rs_if (rt_w (rw_or (rt_not (rt_truth (re_fn (k_is_row Y) cx (ra_cons (re_var 0) (ra_cons re_int (ra_cons re_int ra_nil)))))) (rw_or (rt_not (rt_truth (re_fn (k_is_among Y) cx (ra_cons (re_ix ix_seq v2_ix (fun _ _ => rfl) (re_var 0) re_int) (ra_cons re_int (ra_cons (re_op op_sub v2_sub (re_var 1) re_int) ra_nil)))))) (rw_or1 (rt_not (rt_truth (re_fn (k_is_row Y) cx (ra_cons (re_ix ix_seq v2_ix (fun _ _ => rfl) (re_var 0) re_int) (ra_cons re_int (ra_cons (re_gi Y.i_MOST_ROWS) ra_nil)))))))))) (rb_one (rs_ret re_bl)) rb_nil)
    (rb_cons (rs_if (rt_not (rt_truth (re_all Y.f_all cx.hc (ra_cons (re_lc ⟨cx.hc, S.nd, (ri_seq (re_ix ix_seq v2_ix (fun _ _ => rfl) (re_var 0) re_int)), blkOk_by (own := [("turn", 3)]) (by kernel_rfl), fun _ _ _ _ _ => (rg_name S.nd rfl (by first | exact Or.inl rfl | exact Or.inr rfl)), fun _ _ _ _ _ => rts_nil, fun _ _ _ _ _ => (re_fn (k_is_turn Y) cx.blk (ra_cons (re_var 3) (ra_cons (re_var 2) ra_nil))), rfl⟩) ra_nil)))) (rb_one (rs_ret re_bl)) rb_nil)
    (rb_one (rs_ret (re_cmp (op_eqA cx) v2_eq (by rfl) (re_sum Y.f_sum cx.hc (ra_cons (re_lc ⟨cx.hc, S.nd, (ri_seq (re_ix ix_seq v2_ix (fun _ _ => rfl) (re_var 0) re_int)), blkOk_by (own := [("beats", 4), ("green", 5)]) (by kernel_rfl), fun _ _ _ _ _ => (rg_tup cx.blk.hc (rgs_cons (rg_name S.nd rfl (by first | exact Or.inl rfl | exact Or.inr rfl)) (rgs_cons (rg_name S.nd rfl (by first | exact Or.inl rfl | exact Or.inr rfl)) rgs_nil))), fun _ _ _ _ _ => rts_nil, fun _ _ _ _ _ => (re_var 4), rfl⟩) ra_nil)) (re_var 1)))))))
theorem k_ends_at : Known P w K mg base "ends_at" ["roads", "crossing"] m_ends_at 1 := by
  obtain ⟨fd, F⟩ := Y.c.def_ 7 (d := d_ends_at) rfl
  have S : FnScope (["roads", "crossing", "number", "begin", "end", "long"] : List Str) (["roads", "crossing"] : List Str) (defScope (top 17)) := ⟨rfl, rfl, rfl, by decide +kernel, rfl, by decide +kernel, by decide +kernel⟩
  exact Known.of F Y.g_ends_at S (fun _ _ _ _ _ _ us hl => match us, hl with | [_, _], _ => rfl) fun cdv A outer sh H E cx =>
    (rb_one (rs_ret (re_lc ⟨cx.hc, S.nd, (ri_enum rfl Y.f_enumerate (re_var 0)), blkOk_by (own := [("number", 2), ("begin", 3), ("end", 4), ("long", 5)]) (by kernel_rfl), fun _ _ _ _ _ => (rg_tup cx.blk.hc (rgs_cons (rg_name S.nd rfl (by first | exact Or.inl rfl | exact Or.inr rfl)) (rgs_cons (rg_tup cx.blk.hc (rgs_cons (rg_name S.nd rfl (by first | exact Or.inl rfl | exact Or.inr rfl)) (rgs_cons (rg_name S.nd rfl (by first | exact Or.inl rfl | exact Or.inr rfl)) (rgs_cons (rg_name S.nd rfl (by first | exact Or.inl rfl | exact Or.inr rfl)) rgs_nil)))) rgs_nil))), fun _ _ _ _ _ => (rts_one (rt_cmp (op_eqA cx.blk) v2_eq (by rfl) (re_var 4) (re_var 1))), fun _ _ _ _ _ => (re_var 2), rfl⟩)))
theorem k_is_town : Known P w K mg base "is_town" ["thing"] m_is_town 5 := by
  obtain ⟨fd, F⟩ := Y.c.def_ 8 (d := d_is_town) rfl
  have S : FnScope (["thing", "crossings", "around", "roads", "lights", "road", "crossing", "one"] : List Str) (["thing"] : List Str) (defScope (top 18)) := ⟨rfl, rfl, rfl, by decide +kernel, rfl, by decide +kernel, by decide +kernel⟩
  exact Known.of F Y.g_is_town S (fun _ _ _ _ _ _ us hl => match us, hl with | [_], _ => rfl) fun cdv A outer sh H E cx =>
    (rb_cons (rs_if (rt_w (rw_or (rt_not (rt_truth (re_fn (k_is_row Y) cx (ra_cons (re_var 0) (ra_cons re_int (ra_cons re_int ra_nil)))))) (rw_or (rt_not (rt_truth (re_fn (k_is_among Y) cx (ra_cons (re_ix ix_seq v2_ix (fun _ _ => rfl) (re_var 0) re_int) (ra_cons re_int (ra_cons (re_gi Y.i_MOST_CROSSINGS) ra_nil)))))) (rw_or1 (rt_not (rt_truth (re_fn (k_is_among Y) cx (ra_cons (re_ix ix_seq v2_ix (fun _ _ => rfl) (re_var 0) re_int) (ra_cons re_int (ra_cons (re_gi Y.i_MOST_ROUND) ra_nil)))))))))) (rb_one (rs_ret re_bl)) rb_nil)
    (rb_cons (rs_asg (re_var 0) (rg_tup cx.hc (rgs_cons (rg_name S.nd rfl (Or.inr rfl)) (rgs_cons (rg_name S.nd rfl (Or.inr rfl)) (rgs_cons (rg_name S.nd rfl (Or.inr rfl)) (rgs_cons (rg_name S.nd rfl (Or.inl rfl)) rgs_nil))))))
    (rb_cons (rs_if (rt_w (rw_or (rt_not (rt_truth (re_fn (k_is_row Y) cx (ra_cons (re_var 3) (ra_cons re_int (ra_cons (re_gi Y.i_MOST_ROADS) ra_nil)))))) (rw_or1 (rt_not (rt_truth (re_all Y.f_all cx.hc (ra_cons (re_lc ⟨cx.hc, S.nd, (ri_seq (re_var 3)), blkOk_by (own := [("road", 5)]) (by kernel_rfl), fun _ _ _ _ _ => (rg_name S.nd rfl (by first | exact Or.inl rfl | exact Or.inr rfl)), fun _ _ _ _ _ => rts_nil, fun _ _ _ _ _ => (re_fn (k_is_road_row Y) cx.blk (ra_cons (re_var 5) (ra_cons (re_var 1) ra_nil))), rfl⟩) ra_nil))))))) (rb_one (rs_ret re_bl)) rb_nil)
    (rb_cons (rs_if (rt_not (rt_truth (re_fn (k_is_row Y) cx (ra_cons (re_var 4) (ra_cons (re_var 1) (ra_cons (re_var 1) ra_nil)))))) (rb_one (rs_ret re_bl)) rb_nil)
    (rb_one (rs_ret (re_all Y.f_all cx.hc (ra_cons (re_lc ⟨cx.hc, S.nd, (ri_enum rfl Y.f_enumerate (re_var 4)), blkOk_by (own := [("crossing", 6), ("one", 7)]) (by kernel_rfl), fun _ _ _ _ _ => (rg_tup cx.blk.hc (rgs_cons (rg_name S.nd rfl (by first | exact Or.inl rfl | exact Or.inr rfl)) (rgs_cons (rg_name S.nd rfl (by first | exact Or.inl rfl | exact Or.inr rfl)) rgs_nil))), fun _ _ _ _ _ => rts_nil, fun _ _ _ _ _ => (re_fn (k_are_lights Y) cx.blk (ra_cons (re_var 7) (ra_cons (re_var 2) (ra_cons (re_fn (k_ends_at Y) cx.blk (ra_cons (re_var 3) (ra_cons (re_var 6) ra_nil))) ra_nil)))), rfl⟩) ra_nil))))))))
theorem k_need_town : Known P w K mg base "need_town" ["thing"] m_need_town 6 := by
  obtain ⟨fd, F⟩ := Y.c.def_ 9 (d := d_need_town) rfl
  have S : FnScope (["thing"] : List Str) (["thing"] : List Str) (defScope (top 19)) := ⟨rfl, rfl, rfl, by decide +kernel, rfl, by decide +kernel, by decide +kernel⟩
  exact Known.of F Y.g_need_town S (fun _ _ _ _ _ _ us hl => match us, hl with | [_], _ => rfl) fun cdv A outer sh H E cx =>
    (rb_one (rs_if (rt_not (rt_truth (re_fn (k_is_town Y) cx (ra_cons (re_var 0) ra_nil)))) (rb_one rs_stuck) rb_nil))
theorem k_numbers_text : Known P w K mg base "numbers_text" ["numbers"] m_numbers_text 1 := by
  obtain ⟨fd, F⟩ := Y.c.def_ 10 (d := d_numbers_text) rfl
  have S : FnScope (["numbers", "number"] : List Str) (["numbers"] : List Str) (defScope (top 24)) := ⟨rfl, rfl, rfl, by decide +kernel, rfl, by decide +kernel, by decide +kernel⟩
  exact Known.of F Y.g_numbers_text S (fun _ _ _ _ _ _ us hl => match us, hl with | [_], _ => rfl) fun cdv A outer sh H E cx =>
    (rb_one (rs_ret (re_orT (re_join re_str (ra_cons (re_lc ⟨cx.hc, S.nd, (ri_seq (re_var 0)), blkOk_by (own := [("number", 1)]) (by kernel_rfl), fun _ _ _ _ _ => (rg_name S.nd rfl (by first | exact Or.inl rfl | exact Or.inr rfl)), fun _ _ _ _ _ => rts_nil, fun _ _ _ _ _ => (re_strOf Y.f_str (ra_cons (re_var 1) ra_nil)), rfl⟩) ra_nil)) (re_one (re_gs Y.s_NONE)))))
theorem k_lights_text : Known P w K mg base "lights_text" ["crossing", "lights"] m_lights_text 2 := by
  obtain ⟨fd, F⟩ := Y.c.def_ 11 (d := d_lights_text) rfl
  have S : FnScope (["crossing", "lights", "rows", "beats", "green"] : List Str) (["crossing", "lights"] : List Str) (defScope (top 25)) := ⟨rfl, rfl, rfl, by decide +kernel, rfl, by decide +kernel, by decide +kernel⟩
  exact Known.of F Y.g_lights_text S (fun _ _ _ _ _ _ us hl => match us, hl with | [_, _], _ => rfl) fun cdv A outer sh H E cx =>
    (rb_cons (rs_setLc ⟨cx.hc, S.nd, (ri_seq (re_ix ix_seq v2_ix (fun _ _ => rfl) (re_var 1) re_int)), blkOk_by (own := [("beats", 3), ("green", 4)]) (by kernel_rfl), fun _ _ _ _ _ => (rg_tup cx.blk.hc (rgs_cons (rg_name S.nd rfl (by first | exact Or.inl rfl | exact Or.inr rfl)) (rgs_cons (rg_name S.nd rfl (by first | exact Or.inl rfl | exact Or.inr rfl)) rgs_nil))), fun _ _ _ _ _ => rts_nil, fun _ _ _ _ _ => (re_joined (.cons (re_fmt (re_var 3)) (.cons re_str (.cons (re_fmt (re_fn (k_numbers_text Y) cx.blk (ra_cons (re_var 4) ra_nil))) .nil)))), rfl⟩ rfl rfl (sw_true rfl rfl rfl (by decide +kernel)))
    (rb_one (rs_ret (re_join re_str (ra_cons (re_op op_addA v2_add (re_lst (ra_cons re_str (ra_cons (re_strOf Y.f_str (ra_cons (re_var 0) ra_nil)) (ra_cons (re_strOf Y.f_str (ra_cons (re_ix ix_seq v2_ix (fun _ _ => rfl) (re_var 1) re_int) ra_nil)) ra_nil)))) (re_var 2)) ra_nil)))))
theorem k_town_by : Known P w K mg base "town_by" ["town"] m_town_by 3 := by
  obtain ⟨fd, F⟩ := Y.c.def_ 12 (d := d_town_by) rfl
  have S : FnScope (["town", "lines", "begin", "end", "long", "crossing", "one", "line"] : List Str) (["town"] : List Str) (defScope (top 26)) := ⟨rfl, rfl, rfl, by decide +kernel, rfl, by decide +kernel, by decide +kernel⟩
  exact Known.of F Y.g_town_by S (fun _ _ _ _ _ _ us hl => match us, hl with | [_], _ => rfl) fun cdv A outer sh H E cx =>
    (rb_cons (rs_set S.nd rfl (Or.inl rfl) (re_op op_addA v2_add (re_lst (ra_cons (re_joined (.cons re_str (.cons (re_fmt (re_ix ix_seq v2_ix (fun _ _ => rfl) (re_var 0) re_int)) (.cons re_str (.cons (re_fmt (re_ix ix_seq v2_ix (fun _ _ => rfl) (re_var 0) re_int)) .nil))))) ra_nil)) (re_lc ⟨cx.hc, S.nd, (ri_seq (re_ix ix_seq v2_ix (fun _ _ => rfl) (re_var 0) re_int)), blkOk_by (own := [("begin", 2), ("end", 3), ("long", 4)]) (by kernel_rfl), fun _ _ _ _ _ => (rg_tup cx.blk.hc (rgs_cons (rg_name S.nd rfl (by first | exact Or.inl rfl | exact Or.inr rfl)) (rgs_cons (rg_name S.nd rfl (by first | exact Or.inl rfl | exact Or.inr rfl)) (rgs_cons (rg_name S.nd rfl (by first | exact Or.inl rfl | exact Or.inr rfl)) rgs_nil)))), fun _ _ _ _ _ => rts_nil, fun _ _ _ _ _ => (re_joined (.cons re_str (.cons (re_fmt (re_var 2)) (.cons re_str (.cons (re_fmt (re_var 3)) (.cons re_str (.cons (re_fmt (re_var 4)) .nil))))))), rfl⟩)))
    (rb_cons (rs_set S.nd rfl (Or.inl rfl) (re_op op_addA v2_add (re_var 1) (re_lc ⟨cx.hc, S.nd, (ri_enum rfl Y.f_enumerate (re_ix ix_seq v2_ix (fun _ _ => rfl) (re_var 0) re_int)), blkOk_by (own := [("crossing", 5), ("one", 6)]) (by kernel_rfl), fun _ _ _ _ _ => (rg_tup cx.blk.hc (rgs_cons (rg_name S.nd rfl (by first | exact Or.inl rfl | exact Or.inr rfl)) (rgs_cons (rg_name S.nd rfl (by first | exact Or.inl rfl | exact Or.inr rfl)) rgs_nil))), fun _ _ _ _ _ => (rts_one (rt_notN (re_var 6))), fun _ _ _ _ _ => (re_fn (k_lights_text Y) cx.blk (ra_cons (re_var 5) (ra_cons (re_var 6) ra_nil))), rfl⟩)))
    (rb_one (rs_ret (re_join re_str (ra_cons (re_lc ⟨cx.hc, S.nd, (ri_seq (re_var 1)), blkOk_by (own := [("line", 7)]) (by kernel_rfl), fun _ _ _ _ _ => (rg_name S.nd rfl (by first | exact Or.inl rfl | exact Or.inr rfl)), fun _ _ _ _ _ => rts_nil, fun _ _ _ _ _ => (re_op op_addA v2_add (re_var 7) re_str), rfl⟩) ra_nil))))))
theorem k_town_text : Known P w K mg base "town_text" ["town"] m_town_text 7 := by
  obtain ⟨fd, F⟩ := Y.c.def_ 13 (d := d_town_text) rfl
  have S : FnScope (["town"] : List Str) (["town"] : List Str) (defScope (top 27)) := ⟨rfl, rfl, rfl, by decide +kernel, rfl, by decide +kernel, by decide +kernel⟩
  exact Known.of F Y.g_town_text S (fun _ _ _ _ _ _ us hl => match us, hl with | [_], _ => rfl) fun cdv A outer sh H E cx =>
    (rb_cons (rs_expr (re_fn (k_need_town Y) cx (ra_cons (re_var 0) ra_nil)))
    (rb_one (rs_ret (re_fn (k_town_by Y) cx (ra_cons (re_var 0) ra_nil)))))
theorem k_number_in : Known P w K mg base "number_in" ["word"] m_number_in 1 := by
  obtain ⟨fd, F⟩ := Y.c.def_ 14 (d := d_number_in) rfl
  have S : FnScope (["word", "sign"] : List Str) (["word"] : List Str) (defScope (top 28)) := ⟨rfl, rfl, rfl, by decide +kernel, rfl, by decide +kernel, by decide +kernel⟩
  exact Known.of F Y.g_number_in S (fun _ _ _ _ _ _ us hl => match us, hl with | [_], _ => rfl) fun cdv A outer sh H E cx =>
    (rb_cons (rs_if (rt_w (rw_or (rt_not (rt_chain op_le op_le v2_icmp v2_icmp re_int (re_len Y.f_len (ra_cons (re_var 0) ra_nil)) (re_gi Y.i_MOST_FIGURES))) (rw_or1 (rt_not (rt_truth (re_all Y.f_all cx.hc (ra_cons (re_lc ⟨cx.hc, S.nd, (ri_seq (re_var 0)), blkOk_by (own := [("sign", 1)]) (by kernel_rfl), fun _ _ _ _ _ => (rg_name S.nd rfl (by first | exact Or.inl rfl | exact Or.inr rfl)), fun _ _ _ _ _ => rts_nil, fun _ _ _ _ _ => (re_cmp (op_inA cx.blk) v2_in (by rfl) (re_var 1) (re_gs Y.s_FIGURES)), rfl⟩) ra_nil))))))) (rb_one (rs_ret re_non)) rb_nil)
    (rb_one (rs_ret (re_if (rt_w (rw_or (rt_cmp (op_neA cx) v2_ne (by rfl) (re_ix ix_seq v2_ix (fun _ _ => rfl) (re_var 0) re_int) re_str) (rw_or1 (rt_cmp (op_eqA cx) v2_eq (by rfl) (re_var 0) re_str)))) (re_intOf Y.f_int (ra_cons (re_var 0) ra_nil)) re_non))))
theorem k_numbers_in : Known P w K mg base "numbers_in" ["words"] m_numbers_in 2 := by
  obtain ⟨fd, F⟩ := Y.c.def_ 15 (d := d_numbers_in) rfl
  have S : FnScope (["words", "found", "word"] : List Str) (["words"] : List Str) (defScope (top 29)) := ⟨rfl, rfl, rfl, by decide +kernel, rfl, by decide +kernel, by decide +kernel⟩
  exact Known.of F Y.g_numbers_in S (fun _ _ _ _ _ _ us hl => match us, hl with | [_], _ => rfl) fun cdv A outer sh H E cx =>
    (rb_cons (rs_setLc ⟨cx.hc, S.nd, (ri_seq (re_var 0)), blkOk_by (own := [("word", 2)]) (by kernel_rfl), fun _ _ _ _ _ => (rg_name S.nd rfl (by first | exact Or.inl rfl | exact Or.inr rfl)), fun _ _ _ _ _ => rts_nil, fun _ _ _ _ _ => (re_fn (k_number_in Y) cx.blk (ra_cons (re_var 2) ra_nil)), rfl⟩ rfl rfl (sw_true rfl rfl rfl (by decide +kernel)))
    (rb_one (rs_ret (re_if (rt_cmp (op_inA cx) v2_in (by rfl) re_non (re_var 1)) re_non (re_tupOf Y.f_tuple (ra_cons (re_var 1) ra_nil))))))
theorem k_roads_in : Known P w K mg base "roads_in" ["word"] m_roads_in 3 := by
  obtain ⟨fd, F⟩ := Y.c.def_ 16 (d := d_roads_in) rfl
  have S : FnScope (["word"] : List Str) (["word"] : List Str) (defScope (top 30)) := ⟨rfl, rfl, rfl, by decide +kernel, rfl, by decide +kernel, by decide +kernel⟩
  exact Known.of F Y.g_roads_in S (fun _ _ _ _ _ _ us hl => match us, hl with | [_], _ => rfl) fun cdv A outer sh H E cx =>
    (rb_one (rs_ret (re_fn (k_numbers_in Y) cx (ra_cons (re_split (re_var 0) (ra_cons re_str ra_nil)) ra_nil))))
theorem k_turn_in : Known P w K mg base "turn_in" ["word"] m_turn_in 4 := by
  obtain ⟨fd, F⟩ := Y.c.def_ 17 (d := d_turn_in) rfl
  have S : FnScope (["word", "beats", "sign", "roads", "green", "found"] : List Str) (["word"] : List Str) (defScope (top 31)) := ⟨rfl, rfl, rfl, by decide +kernel, rfl, by decide +kernel, by decide +kernel⟩
  exact Known.of F Y.g_turn_in S (fun _ _ _ _ _ _ us hl => match us, hl with | [_], _ => rfl) fun cdv A outer sh H E cx =>
    (rb_cons (rs_asg (re_partition (re_var 0) (ra_cons re_str ra_nil)) (rg_tup cx.hc (rgs_cons (rg_name S.nd rfl (Or.inl rfl)) (rgs_cons (rg_name S.nd rfl (Or.inl rfl)) (rgs_cons (rg_name S.nd rfl (Or.inl rfl)) rgs_nil)))))
    (rb_cons (rs_set S.nd rfl (Or.inl rfl) (re_if (rt_cmp (op_eqA cx) v2_eq (by rfl) (re_var 3) (re_gs Y.s_NONE)) (re_tup ra_nil) (re_fn (k_roads_in Y) cx (ra_cons (re_var 3) ra_nil))))
    (rb_cons (rs_set S.nd rfl (Or.inl rfl) (re_fn (k_number_in Y) cx (ra_cons (re_var 1) ra_nil)))
    (rb_one (rs_ret (re_if (rt_w (rw_or (rt_cmp (op_eqA cx) v2_eq (by rfl) (re_var 2) re_str) (rw_or (rt_isN (re_var 5)) (rw_or1 (rt_isN (re_var 4)))))) re_non (re_tup (ra_cons (re_var 5) (ra_cons (re_var 4) ra_nil)))))))))
theorem k_numbers_line : Known P w K mg base "numbers_line" ["words", "many"] m_numbers_line 3 := by
  obtain ⟨fd, F⟩ := Y.c.def_ 18 (d := d_numbers_line) rfl
  have S : FnScope (["words", "many"] : List Str) (["words", "many"] : List Str) (defScope (top 32)) := ⟨rfl, rfl, rfl, by decide +kernel, rfl, by decide +kernel, by decide +kernel⟩
  exact Known.of F Y.g_numbers_line S (fun _ _ _ _ _ _ us hl => match us, hl with | [_, _], _ => rfl) fun cdv A outer sh H E cx =>
    (rb_one (rs_ret (re_if (rt_cmp (op_eqA cx) v2_eq (by rfl) (re_len Y.f_len (ra_cons (re_var 0) ra_nil)) (re_op op_addA v2_add (re_var 1) re_int)) (re_fn (k_numbers_in Y) cx (ra_cons (re_sl (re_var 0) (ro_some re_int) ro_none) ra_nil)) re_non)))
theorem k_lights_line : Known P w K mg base "lights_line" ["words"] m_lights_line 5 := by
  obtain ⟨fd, F⟩ := Y.c.def_ 19 (d := d_lights_line) rfl
  have S : FnScope (["words", "head", "rows", "word"] : List Str) (["words"] : List Str) (defScope (top 33)) := ⟨rfl, rfl, rfl, by decide +kernel, rfl, by decide +kernel, by decide +kernel⟩
  exact Known.of F Y.g_lights_line S (fun _ _ _ _ _ _ us hl => match us, hl with | [_], _ => rfl) fun cdv A outer sh H E cx =>
    (rb_cons (rs_if (rt_cmp op_lt v2_icmp (by rfl) (re_len Y.f_len (ra_cons (re_var 0) ra_nil)) re_int) (rb_one (rs_ret re_non)) rb_nil)
    (rb_cons (rs_par cx.hc S.nd rfl rfl (by decide) rfl rfl (ra_cons (re_fn (k_numbers_in Y) cx (ra_cons (re_sl (re_var 0) (ro_some re_int) (ro_some re_int)) ra_nil)) (ra_cons (re_lc ⟨cx.hc, S.nd, (ri_seq (re_sl (re_var 0) (ro_some re_int) ro_none)), blkOk_by (own := [("word", 3)]) (by kernel_rfl), fun _ _ _ _ _ => (rg_name S.nd rfl (by first | exact Or.inl rfl | exact Or.inr rfl)), fun _ _ _ _ _ => rts_nil, fun _ _ _ _ _ => (re_fn (k_turn_in Y) cx.blk (ra_cons (re_var 3) ra_nil)), rfl⟩) ra_nil)))
    (rb_one (rs_ret (re_if (rt_w (rw_or (rt_isN (re_var 1)) (rw_or1 (rt_cmp (op_inA cx) v2_in (by rfl) re_non (re_var 2))))) re_non (re_op op_addA v2_add (re_var 1) (re_tup (ra_cons (re_tupOf Y.f_tuple (ra_cons (re_var 2) ra_nil)) ra_nil))))))))
theorem k_lines_in : Known P w K mg base "lines_in" ["text"] m_lines_in 1 := by
  obtain ⟨fd, F⟩ := Y.c.def_ 20 (d := d_lines_in) rfl
  have S : FnScope (["text", "line"] : List Str) (["text"] : List Str) (defScope (top 34)) := ⟨rfl, rfl, rfl, by decide +kernel, rfl, by decide +kernel, by decide +kernel⟩
  exact Known.of F Y.g_lines_in S (fun _ _ _ _ _ _ us hl => match us, hl with | [_], _ => rfl) fun cdv A outer sh H E cx =>
    (rb_cons (rs_if (rt_w (rw_or (rt_not (rt_truth (re_isStr Y.f_isinstance Y.f_str (re_var 0)))) (rw_or1 (rt_cmp (op_neA cx) v2_ne (by rfl) (re_sl (re_var 0) (ro_some (re_un un_neg v1_neg re_int)) ro_none) re_str)))) (rb_one rs_stuck) rb_nil)
    (rb_one (rs_ret (re_lc ⟨cx.hc, S.nd, (ri_seq (re_split (re_sl (re_var 0) ro_none (ro_some (re_un un_neg v1_neg re_int))) (ra_cons re_str ra_nil))), blkOk_by (own := [("line", 1)]) (by kernel_rfl), fun _ _ _ _ _ => (rg_name S.nd rfl (by first | exact Or.inl rfl | exact Or.inr rfl)), fun _ _ _ _ _ => rts_nil, fun _ _ _ _ _ => (re_split (re_var 1) (ra_cons re_str ra_nil)), rfl⟩))))
theorem k_town_line : Known P w K mg base "town_line" ["words", "number", "is_lit"] m_town_line 6 := by
  obtain ⟨fd, F⟩ := Y.c.def_ 21 (d := d_town_line) rfl
  have S : FnScope (["words", "number", "is_lit"] : List Str) (["words", "number", "is_lit"] : List Str) (defScope (top 35)) := ⟨rfl, rfl, rfl, by decide +kernel, rfl, by decide +kernel, by decide +kernel⟩
  exact Known.of F Y.g_town_line S (fun _ _ _ _ _ _ us hl => match us, hl with | [_, _, _], _ => rfl) fun cdv A outer sh H E cx =>
    (rb_cons (rs_if (rt_cmp (op_eqA cx) v2_eq (by rfl) (re_var 1) re_int) (rb_one (rs_ret (re_if (rt_cmp (op_eqA cx) v2_eq (by rfl) (re_ix ix_seq v2_ix (fun _ _ => rfl) (re_var 0) re_int) re_str) (re_fn (k_numbers_line Y) cx (ra_cons (re_var 0) (ra_cons re_int ra_nil))) re_non))) rb_nil)
    (rb_cons (rs_if (rt_w (rw_and (rt_cmp (op_eqA cx) v2_eq (by rfl) (re_ix ix_seq v2_ix (fun _ _ => rfl) (re_var 0) re_int) re_str) (rw_and1 (rt_not (rt_truth (re_var 2)))))) (rb_one (rs_ret (re_fn (k_numbers_line Y) cx (ra_cons (re_var 0) (ra_cons re_int ra_nil))))) rb_nil)
    (rb_one (rs_ret (re_if (rt_cmp (op_eqA cx) v2_eq (by rfl) (re_ix ix_seq v2_ix (fun _ _ => rfl) (re_var 0) re_int) re_str) (re_fn (k_lights_line Y) cx (ra_cons (re_var 0) ra_nil)) re_non)))))
theorem k_made_of : Known P w K mg base "made_of" ["head", "roads", "lights"] m_made_of 1 := by
  obtain ⟨fd, F⟩ := Y.c.def_ 22 (d := d_made_of) rfl
  have S : FnScope (["head", "roads", "lights", "by", "crossing", "shift", "rows", "crossings"] : List Str) (["head", "roads", "lights"] : List Str) (defScope (top 36)) := ⟨rfl, rfl, rfl, by decide +kernel, rfl, by decide +kernel, by decide +kernel⟩
  exact Known.of F Y.g_made_of S (fun _ _ _ _ _ _ us hl => match us, hl with | [_, _, _], _ => rfl) fun cdv A outer sh H E cx =>
    (rb_cons (rs_set S.nd rfl (Or.inr rfl) (re_dc ⟨cx.hc, S.nd, (ri_seq (re_var 2)), blkOk_by (own := [("crossing", 4), ("shift", 5), ("rows", 6)]) (by kernel_rfl), fun _ _ _ _ _ => (rg_tup cx.blk.hc (rgs_cons (rg_name S.nd rfl (by first | exact Or.inl rfl | exact Or.inr rfl)) (rgs_cons (rg_name S.nd rfl (by first | exact Or.inl rfl | exact Or.inr rfl)) (rgs_cons (rg_name S.nd rfl (by first | exact Or.inl rfl | exact Or.inr rfl)) rgs_nil)))), fun _ _ _ _ _ => rts_nil, fun _ _ _ _ _ => (re_tup (ra_cons (re_var 5) (ra_cons (re_var 6) ra_nil))), rfl⟩ (fun _ _ _ _ _ => (re_var 4))))
    (rb_cons (rs_set S.nd rfl (Or.inl rfl) (re_min Y.f_min cx.hc (ra_cons (re_ix ix_seq v2_ix (fun _ _ => rfl) (re_var 0) re_int) (ra_cons (re_gi Y.i_MOST_CROSSINGS) ra_nil))))
    (rb_one (rs_ret (re_op op_addA v2_add (re_var 0) (re_tup (ra_cons (re_tupOf Y.f_tuple (ra_cons (re_var 1) ra_nil)) (ra_cons (re_tupOf Y.f_tuple (ra_cons (re_lc ⟨cx.hc, S.nd, (ri_range rfl Y.f_range (re_var 7)), blkOk_by (own := [("crossing", 4)]) (by kernel_rfl), fun _ _ _ _ _ => (rg_name S.nd rfl (by first | exact Or.inl rfl | exact Or.inr rfl)), fun _ _ _ _ _ => rts_nil, fun _ _ _ _ _ => (re_dget1 cx.blk (re_var 3) (re_var 4)), rfl⟩) ra_nil)) ra_nil))))))))
theorem k_read_town : Known P w K mg base "read_town" ["text"] m_read_town 7 := by
  obtain ⟨fd, F⟩ := Y.c.def_ 23 (d := d_read_town) rfl
  have S : FnScope (["text", "roads", "lights", "head", "number", "words", "found", "town"] : List Str) (["text"] : List Str) (defScope (top 37)) := ⟨rfl, rfl, rfl, by decide +kernel, rfl, by decide +kernel, by decide +kernel⟩
  exact Known.of F Y.g_read_town S (fun _ _ _ _ _ _ us hl => match us, hl with | [_], _ => rfl) fun cdv A outer sh H E cx =>
    (rb_cons (rs_par3 cx.hc S.nd rfl rfl rfl (by decide) (by decide) (by decide) rfl rfl rfl (ra_cons (re_newl ra_nil) (ra_cons (re_newl ra_nil) (ra_cons (re_tup ra_nil) ra_nil))))
    (rb_cons (rs_for cx.hp cx.hc (ri_enumK Y.f_enumerate (re_fn (k_lines_in Y) cx (ra_cons (re_var 0) ra_nil))) (rg_tup cx.hc (rgs_cons (rg_name S.nd rfl (Or.inl rfl)) (rgs_cons (rg_name S.nd rfl (Or.inl rfl)) rgs_nil))) (rb_cons (rs_set S.nd rfl (Or.inl rfl) (re_fn (k_town_line Y) cx (ra_cons (re_var 5) (ra_cons (re_var 4) (ra_cons (re_cmp (op_neA cx) v2_ne (by rfl) (re_var 2) (re_lst ra_nil)) ra_nil)))))
    (rb_cons (rs_if (rt_isN (re_var 6)) (rb_one rs_stuck) rb_nil)
    (rb_one (rs_if (rt_cmp (op_eqA cx) v2_eq (by rfl) (re_var 4) re_int) (rb_one (rs_set S.nd rfl (Or.inl rfl) (re_var 6))) (rb_one (rs_if (rt_cmp (op_eqA cx) v2_eq (by rfl) (re_ix ix_seq v2_ix (fun _ _ => rfl) (re_var 5) re_int) re_str) (rb_one (rs_expr (re_append (re_var 1) (ra_cons (re_var 6) ra_nil)))) (rb_one (rs_expr (re_append (re_var 2) (ra_cons (re_var 6) ra_nil)))))))))))
    (rb_cons (rs_set S.nd rfl (Or.inl rfl) (re_fn (k_made_of Y) cx (ra_cons (re_var 3) (ra_cons (re_var 1) (ra_cons (re_var 2) ra_nil)))))
    (rb_cons (rs_if (rt_w (rw_or (rt_not (rt_truth (re_fn (k_is_town Y) cx (ra_cons (re_var 7) ra_nil)))) (rw_or1 (rt_cmp (op_neA cx) v2_ne (by rfl) (re_fn (k_town_by Y) cx (ra_cons (re_var 7) ra_nil)) (re_var 0))))) (rb_one rs_stuck) rb_nil)
    (rb_one (rs_ret (re_var 7)))))))
theorem k_l_cell_at : Known P w K mg base "_law_cell_at" ["_law_script", "_law_k"] m_l_cell_at 1 := by
  obtain ⟨fd, F⟩ := Y.c.def_ 24 (d := d_l_cell_at) rfl
  have S : FnScope (["_law_script", "_law_k"] : List Str) (["_law_script", "_law_k"] : List Str) (defScope (top 39)) := ⟨rfl, rfl, rfl, by decide +kernel, rfl, by decide +kernel, by decide +kernel⟩
  exact Known.of F Y.g_l_cell_at S (fun _ _ _ _ _ _ us hl => match us, hl with | [_, _], _ => rfl) fun cdv A outer sh H E cx =>
    (rb_cons (rs_if (rt_cmp op_lt v2_icmp (by rfl) (re_var 1) (re_len Y.f_len (ra_cons (re_var 0) ra_nil))) (rb_one (rs_ret (re_ix ix_seq v2_ix (fun _ _ => rfl) (re_var 0) (re_var 1)))) rb_nil)
    (rb_one (rs_ret re_int)))
theorem k_l_pen : Known P w K mg base "_law_pen" ["_law_cell"] m_l_pen 1 := by
  obtain ⟨fd, F⟩ := Y.c.def_ 25 (d := d_l_pen) rfl
  have S : FnScope (["_law_cell"] : List Str) (["_law_cell"] : List Str) (defScope (top 40)) := ⟨rfl, rfl, rfl, by decide +kernel, rfl, by decide +kernel, by decide +kernel⟩
  exact Known.of F Y.g_l_pen S (fun _ _ _ _ _ _ us hl => match us, hl with | [_], _ => rfl) fun cdv A outer sh H E cx =>
    (rb_one (rs_ret (re_newl (ra_cons (re_max Y.f_max cx.hc (ra_cons re_int (ra_cons (re_op op_sub v2_sub (re_var 0) (re_op op_pow v2_pow re_int re_int)) ra_nil))) (ra_cons (re_op op_mod v2_mod (re_var 0) re_int) (ra_cons re_int ra_nil))))))
theorem k_l_draw : Known P w K mg base "_law_draw" ["_law_pen_here", "_law_many"] m_l_draw 1 := by
  obtain ⟨fd, F⟩ := Y.c.def_ 26 (d := d_l_draw) rfl
  have S : FnScope (["_law_pen_here", "_law_many", "_law_digit", "_law_stir"] : List Str) (["_law_pen_here", "_law_many"] : List Str) (defScope (top 41)) := ⟨rfl, rfl, rfl, by decide +kernel, rfl, by decide +kernel, by decide +kernel⟩
  exact Known.of F Y.g_l_draw S (fun _ _ _ _ _ _ us hl => match us, hl with | [_, _], _ => rfl) fun cdv A outer sh H E cx =>
    (rb_cons (rs_if (rt_cmp op_gt v2_icmp (by rfl) (re_ix ix_seq v2_ix (fun _ _ => rfl) (re_var 0) re_int) re_int) (rb_cons (rs_set S.nd rfl (Or.inl rfl) (re_op op_mod v2_mod (re_ix ix_seq v2_ix (fun _ _ => rfl) (re_var 0) re_int) (re_var 1)))
    (rb_cons (rs_asg (re_op op_fdiv v2_fdiv (re_ix ix_seq v2_ix (fun _ _ => rfl) (re_var 0) re_int) (re_var 1)) (rg_sub set_list vset_lst (re_var 0) re_int))
    (rb_one (rs_ret (re_var 2))))) rb_nil)
    (rb_cons (rs_asg (re_op op_addA v2_add (re_ix ix_seq v2_ix (fun _ _ => rfl) (re_var 0) re_int) re_int) (rg_sub set_list vset_lst (re_var 0) re_int))
    (rb_cons (rs_set S.nd rfl (Or.inl rfl) (re_op op_mod v2_mod (re_op op_mulA v2_mul (re_op op_addA v2_add (re_ix ix_seq v2_ix (fun _ _ => rfl) (re_var 0) re_int) (re_op op_mulA v2_mul re_int (re_ix ix_seq v2_ix (fun _ _ => rfl) (re_var 0) re_int))) (re_op op_addA v2_add re_int (re_op op_mulA v2_mul re_int (re_ix ix_seq v2_ix (fun _ _ => rfl) (re_var 0) re_int)))) re_int))
    (rb_cons (rs_set S.nd rfl (Or.inl rfl) (re_op op_mod v2_mod (re_op op_addA v2_add (re_op op_addA v2_add (re_op op_mulA v2_mul (re_var 3) (re_var 3)) (re_op op_mulA v2_mul re_int (re_ix ix_seq v2_ix (fun _ _ => rfl) (re_var 0) re_int))) re_int) re_int))
    (rb_one (rs_ret (re_op op_mod v2_mod (re_op op_fdiv v2_fdiv (re_op op_mod v2_mod (re_op op_mulA v2_mul (re_var 3) re_int) re_int) re_int) (re_var 1))))))))
theorem k_l_lights : Known P w K mg base "_law_lights" ["_law_pen_here", "_law_roads", "_law_crossing", "_law_circle"] m_l_lights 2 := by
  obtain ⟨fd, F⟩ := Y.c.def_ 27 (d := d_l_lights) rfl
  have S : FnScope (["_law_pen_here", "_law_roads", "_law_crossing", "_law_circle", "_law_some", "_law_rows", "_law_left", "_law_at", "_law_road", "_law_beats", "_law_green"] : List Str) (["_law_pen_here", "_law_roads", "_law_crossing", "_law_circle"] : List Str) (defScope (top 42)) := ⟨rfl, rfl, rfl, by decide +kernel, rfl, by decide +kernel, by decide +kernel⟩
  exact Known.of F Y.g_l_lights S (fun _ _ _ _ _ _ us hl => match us, hl with | [_, _, _, _], _ => rfl) fun cdv A outer sh H E cx =>
    (rb_cons (rs_if (rt_cmp op_lt v2_icmp (by rfl) (re_fn (k_l_draw Y) cx (ra_cons (re_var 0) (ra_cons re_int ra_nil))) re_int) (rb_one (rs_ret re_non)) rb_nil)
    (rb_cons (rs_par3 cx.hc S.nd rfl rfl rfl (by decide) (by decide) (by decide) rfl rfl rfl (ra_cons (re_lc ⟨cx.hc, S.nd, (ri_enum rfl Y.f_enumerate (re_var 1)), blkOk_by (own := [("_law_at", 7), ("_law_road", 8)]) (by kernel_rfl), fun _ _ _ _ _ => (rg_tup cx.blk.hc (rgs_cons (rg_name S.nd rfl (by first | exact Or.inl rfl | exact Or.inr rfl)) (rgs_cons (rg_name S.nd rfl (by first | exact Or.inl rfl | exact Or.inr rfl)) rgs_nil))), fun _ _ _ _ _ => (rts_one (rt_cmp (op_eqA cx.blk) v2_eq (by rfl) (re_ix ix_seq v2_ix (fun _ _ => rfl) (re_var 8) re_int) (re_var 2))), fun _ _ _ _ _ => (re_var 7), rfl⟩) (ra_cons (re_newl ra_nil) (ra_cons (re_var 3) ra_nil))))
    (rb_cons (rs_while cx.hp (rt_cmp op_gt v2_icmp (by rfl) (re_var 6) re_int) (rb_cons (rs_set S.nd rfl (Or.inl rfl) (re_if (rt_cmp op_lt v2_icmp (by rfl) (re_len Y.f_len (ra_cons (re_var 5) ra_nil)) re_int) (re_min Y.f_min cx.hc (ra_cons (re_var 6) (ra_cons (re_op op_addA v2_add re_int (re_fn (k_l_draw Y) cx (ra_cons (re_var 0) (ra_cons re_int ra_nil)))) ra_nil))) (re_var 6)))
    (rb_cons (rs_set S.nd rfl (Or.inl rfl) (re_tupOf Y.f_tuple (ra_cons (re_lc ⟨cx.hc, S.nd, (ri_seq (re_var 4)), blkOk_by (own := [("_law_road", 8)]) (by kernel_rfl), fun _ _ _ _ _ => (rg_name S.nd rfl (by first | exact Or.inl rfl | exact Or.inr rfl)), fun _ _ _ _ _ => (rts_one (rt_cmp op_gt v2_icmp (by rfl) (re_fn (k_l_draw Y) cx.blk (ra_cons (re_var 0) (ra_cons re_int ra_nil))) re_int)), fun _ _ _ _ _ => (re_var 8), rfl⟩) ra_nil)))
    (rb_cons (rs_expr (re_append (re_var 5) (ra_cons (re_tup (ra_cons (re_var 9) (ra_cons (re_var 10) ra_nil))) ra_nil)))
    (rb_one (rs_set S.nd rfl (Or.inl rfl) (re_op op_sub v2_sub (re_var 6) (re_var 9))))))))
    (rb_one (rs_ret (re_tup (ra_cons (re_fn (k_l_draw Y) cx (ra_cons (re_var 0) (ra_cons (re_var 3) ra_nil))) (ra_cons (re_tupOf Y.f_tuple (ra_cons (re_var 5) ra_nil)) ra_nil))))))))
theorem k_l_town : Known P w K mg base "_law_town" ["_law_pen_here"] m_l_town 3 := by
  obtain ⟨fd, F⟩ := Y.c.def_ 28 (d := d_l_town) rfl
  have S : FnScope (["_law_pen_here", "_law_many", "_law_circle", "_law_roads", "_law_at", "_law_turn", "_law_left", "_law_mixed", "_law_lights_here"] : List Str) (["_law_pen_here"] : List Str) (defScope (top 43)) := ⟨rfl, rfl, rfl, by decide +kernel, rfl, by decide +kernel, by decide +kernel⟩
  exact Known.of F Y.g_l_town S (fun _ _ _ _ _ _ us hl => match us, hl with | [_], _ => rfl) fun cdv A outer sh H E cx =>
    (rb_cons (rs_asg (re_tup (ra_cons (re_op op_addA v2_add re_int (re_fn (k_l_draw Y) cx (ra_cons (re_var 0) (ra_cons re_int ra_nil)))) (ra_cons (re_ix ix_seq v2_ix (fun _ _ => rfl) (re_lst (ra_cons re_int (ra_cons re_int (ra_cons re_int (ra_cons re_int (ra_cons re_int (ra_cons re_int ra_nil))))))) (re_fn (k_l_draw Y) cx (ra_cons (re_var 0) (ra_cons re_int ra_nil)))) ra_nil))) (rg_tup cx.hc (rgs_cons (rg_name S.nd rfl (Or.inr rfl)) (rgs_cons (rg_name S.nd rfl (Or.inr rfl)) rgs_nil))) (hw := by kernel_rfl))
    (rb_cons (rs_setNewLc ⟨cx.hc, S.nd, (ri_range rfl Y.f_range (re_var 1)), blkOk_by (own := [("_law_at", 4)]) (by kernel_rfl), fun _ _ _ _ _ => (rg_name S.nd rfl (by first | exact Or.inl rfl | exact Or.inr rfl)), fun _ _ _ _ _ => rts_nil, fun _ _ _ _ _ => (re_tup (ra_cons (re_var 4) (ra_cons (re_op op_mod v2_mod (re_op op_addA v2_add (re_var 4) re_int) (re_var 1)) (ra_cons (re_op op_addA v2_add re_int (re_fn (k_l_draw Y) cx.blk (ra_cons (re_var 0) (ra_cons re_int ra_nil)))) ra_nil)))), rfl⟩ rfl rfl (sw_true rfl rfl rfl (by decide +kernel)))
    (rb_cons (rs_for cx.hp cx.hc (ri_range rfl Y.f_range (re_fn (k_l_draw Y) cx (ra_cons (re_var 0) (ra_cons re_int ra_nil)))) (rg_name S.nd rfl (Or.inl rfl)) (rb_one (rs_expr (re_append (re_var 3) (ra_cons (re_tup (ra_cons (re_fn (k_l_draw Y) cx (ra_cons (re_var 0) (ra_cons (re_var 1) ra_nil))) (ra_cons (re_fn (k_l_draw Y) cx (ra_cons (re_var 0) (ra_cons (re_var 1) ra_nil))) (ra_cons (re_op op_addA v2_add re_int (re_fn (k_l_draw Y) cx (ra_cons (re_var 0) (ra_cons re_int ra_nil)))) ra_nil)))) ra_nil)))))
    (rb_cons (rs_asg (re_tup (ra_cons (re_newOf Y.f_list (ra_cons (re_var 3) ra_nil)) (ra_cons (re_newl ra_nil) ra_nil))) (rg_tup cx.hc (rgs_cons (rg_name S.nd rfl (Or.inl rfl)) (rgs_cons (rg_name S.nd rfl (Or.inr rfl)) rgs_nil))) (hw := by kernel_rfl))
    (rb_cons (rs_while cx.hp (rt_cmp (op_neA cx) v2_ne (by rfl) (re_var 6) (re_lst ra_nil)) (rb_one (rs_expr (re_append (re_var 7) (ra_cons (re_popAt (re_var 6) (ra_cons (re_fn (k_l_draw Y) cx (ra_cons (re_var 0) (ra_cons (re_len Y.f_len (ra_cons (re_var 6) ra_nil)) ra_nil))) ra_nil)) ra_nil)))))
    (rb_cons (rs_setLc ⟨cx.hc, S.nd, (ri_range rfl Y.f_range (re_var 1)), blkOk_by (own := [("_law_at", 4)]) (by kernel_rfl), fun _ _ _ _ _ => (rg_name S.nd rfl (by first | exact Or.inl rfl | exact Or.inr rfl)), fun _ _ _ _ _ => rts_nil, fun _ _ _ _ _ => (re_fn (k_l_lights Y) cx.blk (ra_cons (re_var 0) (ra_cons (re_var 7) (ra_cons (re_var 4) (ra_cons (re_var 2) ra_nil))))), rfl⟩ rfl rfl (sw_true rfl rfl rfl (by decide +kernel)))
    (rb_one (rs_ret (re_tup (ra_cons (re_var 1) (ra_cons (re_var 2) (ra_cons (re_tupOf Y.f_tuple (ra_cons (re_var 7) ra_nil)) (ra_cons (re_tupOf Y.f_tuple (ra_cons (re_var 8) ra_nil)) ra_nil)))))))))))))
theorem k_l_commas : Known P w K mg base "_law_commas" ["_law_numbers"] m_l_commas 1 := by
  obtain ⟨fd, F⟩ := Y.c.def_ 29 (d := d_l_commas) rfl
  have S : FnScope (["_law_numbers", "_law_number"] : List Str) (["_law_numbers"] : List Str) (defScope (top 44)) := ⟨rfl, rfl, rfl, by decide +kernel, rfl, by decide +kernel, by decide +kernel⟩
  exact Known.of F Y.g_l_commas S (fun _ _ _ _ _ _ us hl => match us, hl with | [_], _ => rfl) fun cdv A outer sh H E cx =>
    (rb_one (rs_ret (re_if (rt_cmp op_gt v2_icmp (by rfl) (re_len Y.f_len (ra_cons (re_var 0) ra_nil)) re_int) (re_join re_str (ra_cons (re_lc ⟨cx.hc, S.nd, (ri_seq (re_var 0)), blkOk_by (own := [("_law_number", 1)]) (by kernel_rfl), fun _ _ _ _ _ => (rg_name S.nd rfl (by first | exact Or.inl rfl | exact Or.inr rfl)), fun _ _ _ _ _ => rts_nil, fun _ _ _ _ _ => (re_strOf Y.f_str (ra_cons (re_var 1) ra_nil)), rfl⟩) ra_nil)) re_str)))
theorem k_l_town_lines : Known P w K mg base "_law_town_lines" ["_law_town_here"] m_l_town_lines 2 := by
  obtain ⟨fd, F⟩ := Y.c.def_ 30 (d := d_l_town_lines) rfl
  have S : FnScope (["_law_town_here", "_law_lines", "_law_begin", "_law_end", "_law_long", "_law_crossing", "_law_one", "_law_rows", "_law_beats", "_law_green"] : List Str) (["_law_town_here"] : List Str) (defScope (top 45)) := ⟨rfl, rfl, rfl, by decide +kernel, rfl, by decide +kernel, by decide +kernel⟩
  exact Known.of F Y.g_l_town_lines S (fun _ _ _ _ _ _ us hl => match us, hl with | [_], _ => rfl) fun cdv A outer sh H E cx =>
    (rb_cons (rs_set S.nd rfl (Or.inl rfl) (re_newl (ra_cons (re_op op_addA v2_add (re_op op_addA v2_add (re_op op_addA v2_add re_str (re_strOf Y.f_str (ra_cons (re_ix ix_seq v2_ix (fun _ _ => rfl) (re_var 0) re_int) ra_nil))) re_str) (re_strOf Y.f_str (ra_cons (re_ix ix_seq v2_ix (fun _ _ => rfl) (re_var 0) re_int) ra_nil))) ra_nil)))
    (rb_cons (rs_for cx.hp cx.hc (ri_seq (re_ix ix_seq v2_ix (fun _ _ => rfl) (re_var 0) re_int)) (rg_tup cx.hc (rgs_cons (rg_name S.nd rfl (Or.inl rfl)) (rgs_cons (rg_name S.nd rfl (Or.inl rfl)) (rgs_cons (rg_name S.nd rfl (Or.inl rfl)) rgs_nil)))) (rb_one (rs_expr (re_append (re_var 1) (ra_cons (re_op op_addA v2_add (re_op op_addA v2_add (re_op op_addA v2_add (re_op op_addA v2_add (re_op op_addA v2_add re_str (re_strOf Y.f_str (ra_cons (re_var 2) ra_nil))) re_str) (re_strOf Y.f_str (ra_cons (re_var 3) ra_nil))) re_str) (re_strOf Y.f_str (ra_cons (re_var 4) ra_nil))) ra_nil)))))
    (rb_cons (rs_for cx.hp cx.hc (ri_enum rfl Y.f_enumerate (re_ix ix_seq v2_ix (fun _ _ => rfl) (re_var 0) re_int)) (rg_tup cx.hc (rgs_cons (rg_name S.nd rfl (Or.inl rfl)) (rgs_cons (rg_name S.nd rfl (Or.inl rfl)) rgs_nil))) (rb_one (rs_if (rt_notN (re_var 6)) (rb_cons (rs_setLc ⟨cx.hc, S.nd, (ri_seq (re_ix ix_seq v2_ix (fun _ _ => rfl) (re_var 6) re_int)), blkOk_by (own := [("_law_beats", 8), ("_law_green", 9)]) (by kernel_rfl), fun _ _ _ _ _ => (rg_tup cx.blk.hc (rgs_cons (rg_name S.nd rfl (by first | exact Or.inl rfl | exact Or.inr rfl)) (rgs_cons (rg_name S.nd rfl (by first | exact Or.inl rfl | exact Or.inr rfl)) rgs_nil))), fun _ _ _ _ _ => rts_nil, fun _ _ _ _ _ => (re_op op_addA v2_add (re_op op_addA v2_add (re_op op_addA v2_add re_str (re_strOf Y.f_str (ra_cons (re_var 8) ra_nil))) re_str) (re_fn (k_l_commas Y) cx.blk (ra_cons (re_var 9) ra_nil))), rfl⟩ rfl rfl (sw_true rfl rfl rfl (by decide +kernel)))
    (rb_one (rs_expr (re_append (re_var 1) (ra_cons (re_op op_addA v2_add (re_op op_addA v2_add (re_op op_addA v2_add (re_op op_addA v2_add re_str (re_strOf Y.f_str (ra_cons (re_var 5) ra_nil))) re_str) (re_strOf Y.f_str (ra_cons (re_ix ix_seq v2_ix (fun _ _ => rfl) (re_var 6) re_int) ra_nil))) (re_join re_str (ra_cons (re_var 7) ra_nil))) ra_nil))))) rb_nil)))
    (rb_one (rs_ret (re_var 1))))))
theorem k_law_g : ∃ f fd, mg "law" = some (.ref f) ∧ ∀ base : Heap, FnG P w K mg base 8 f fd ["_law_script"] (spOf K mg 1 m_law) := by
  obtain ⟨fd, F⟩ := Y.c.def_ 31 (d := d_law) rfl
  have S : FnScope (["_law_script", "_law_k", "_law_pen_here", "_law_turn", "_law_town_here", "_law_kept", "_law_due", "_law_line", "_law_often"] : List Str) (["_law_script"] : List Str) (defScope (top 46)) := ⟨rfl, rfl, rfl, by decide +kernel, rfl, by decide +kernel, by decide +kernel⟩
  exact ⟨_, fd, Y.g_law, fun base => fn_okG (gc := .keep) F S (F.bindsA (fun _ _ _ _ _ _ us hl => match us, hl with | [_], _ => rfl)) fun cdv A outer sh H E cx =>
    (rb_cons (rs_for cx.c.hp cx.c.hc (ri_range rfl Y.f_range (re_max Y.f_max cx.c.hc (ra_cons re_int (ra_cons (re_min Y.f_min cx.c.hc (ra_cons (re_len Y.f_len (ra_cons (re_var 0) ra_nil)) (ra_cons re_int ra_nil))) ra_nil)))) (rg_name S.nd rfl (Or.inl rfl)) (rb_cons (rs_set S.nd rfl (Or.inl rfl) (re_fn (k_l_pen Y) cx.c (ra_cons (re_fn (k_l_cell_at Y) cx.c (ra_cons (re_var 0) (ra_cons (re_var 1) ra_nil))) ra_nil)))
    (rb_one (rs_for cx.c.hp cx.c.hc (ri_range rfl Y.f_range re_int) (rg_name S.nd rfl (Or.inl rfl)) (rb_cons (rs_set S.nd rfl (Or.inl rfl) (re_fn (k_l_town Y) cx.c (ra_cons (re_var 2) ra_nil)))
    (rb_cons (rs_par cx.c.hc S.nd rfl rfl (by decide) rfl rfl (ra_cons (re_repr Y.f_repr cx (ra_cons (re_var 4) ra_nil)) (ra_cons (re_join re_str (ra_cons (re_lc ⟨cx.c.hc, S.nd, (ri_seq (re_fn (k_l_town_lines Y) cx.c (ra_cons (re_var 4) ra_nil))), blkOk_by (own := [("_law_line", 7)]) (by kernel_rfl), fun _ _ _ _ _ => (rg_name S.nd rfl (by first | exact Or.inl rfl | exact Or.inr rfl)), fun _ _ _ _ _ => rts_nil, fun _ _ _ _ _ => (re_op op_addA v2_add (re_var 7) re_str), rfl⟩) ra_nil)) ra_nil)))
    (rb_cons (rs_for cx.c.hp cx.c.hc (ri_range rfl Y.f_range re_int) (rg_name S.nd rfl (Or.inl rfl)) (rb_one (rs_if (rt_w (rw_or (rt_cmp (op_neA cx.c) v2_ne (by rfl) (re_repr Y.f_repr cx (ra_cons (re_fn (k_town_text Y) cx.c (ra_cons (re_var 4) ra_nil)) ra_nil)) (re_repr Y.f_repr cx (ra_cons (re_var 6) ra_nil))) (rw_or1 (rt_cmp (op_neA cx.c) v2_ne (by rfl) (re_repr Y.f_repr cx (ra_cons (re_fn (k_read_town Y) cx.c (ra_cons (re_var 6) ra_nil)) ra_nil)) (re_repr Y.f_repr cx (ra_cons (re_var 4) ra_nil)))))) (rb_one (rs_ret re_bl)) rb_nil)))
    (rb_one (rs_if (rt_cmp (op_neA cx.c) v2_ne (by rfl) (re_repr Y.f_repr cx (ra_cons (re_var 4) ra_nil)) (re_var 5)) (rb_one (rs_ret re_bl)) rb_nil)))))))))
    (rb_one (rs_ret re_bl)))⟩
end
end LB
/- ===== Fin ===== -/
set_option Elab.async false
set_option linter.all false
set_option maxRecDepth 100000
set_option maxHeartbeats 0
open PySem PySem.W PySem.Calls PyProof.Rows
theorem PySem.Challenge.cw_lanebeats_k80_towns_written_and_read_holds : PySem.Challenge.rw_lanebeats_k80_towns_written_and_read.Holds := by
  w_on; o_law
  refine HandSHeadRun.head_any (r := OpenLaw.row PySem.Challenge.rw_lanebeats_k80_towns_written_and_read) (q := view (OpenLaw.row PySem.Challenge.rw_lanebeats_k80_towns_written_and_read).prog [46]) (H := LB.hk) (ob := LB.ob) (M := 6000) (loose := LB.loose) (d := HandSHeadRun.topDef (OpenLaw.row PySem.Challenge.rw_lanebeats_k80_towns_written_and_read).prog 46) (kwd := []) LB.ob_eq
    (by kernel_rfl) (fun s => by kernel_rfl) LB.run (by kernel_rfl) (by kernel_rfl) (by kernel_rfl) (by rfl) (by first | assumption | decide +kernel) (by decide +kernel) ⟨rfl, rfl, rfl, rfl, rfl, by decide +kernel⟩ ?hw ?hc
  case hw => w_witness2
  case hc =>
    refine LB.walk_knownG (l := PySem.Challenge.rw_lanebeats_k80_towns_written_and_read) (k := 8) (x := "_law_script") (m := LB.m_law) rfl (by kernel_rfl) ⟨rfl, by decide, by decide⟩ ?_ LB.law_plain
    intro w mg h Y G
    obtain ⟨K, KX, c⟩ := Y
    refine ⟨K, KX, ?_⟩
    have e : (HandSHeadRun.topDef (OpenLaw.row PySem.Challenge.rw_lanebeats_k80_towns_written_and_read).prog 46).name = ("law" : PySem.Str) := by kernel_rfl
    rw [e]
    exact LB.k_law_g ⟨c, h, KX, G⟩
