import PyProof.Rows.All
import HandS.ForMost
import HandS.ForExc
import HandS.CallSlots
import HandS.TupAny
import HandS.TupMul
import HandS.Style
import HandS.Zip
import HandS.Conv
import HandS.Strs
import HandS.IsInst
import HandS.CallLocal
import KE.DataCmp
import KE.SortData
import KE.DatumIndex
import HandS.Rev
import KE.KRevSl
import PyProof.TupleOfStr
import KE.GoesMore
import KE.GoesEnum
import PyProof.StrOps2
import PyProof.AutoIntG3
import PyProof.Rows.ListMulR
import KE.KTupSum
import HandS.NoneIn
import KE.DataMinMax
import PyProof.LongRange
import HandS.Walk
import HandS.ForDict
import HandS.Small
import PySem.Challenge.RW_clothholds_k01_whole_threads_and_sides
set_option Elab.async false
set_option linter.all false
set_option maxRecDepth 100000
set_option maxHeartbeats 2000000
namespace Z
open PySem PySem.Spec PyProof.Rows L2

/-! ### pure data, mutable objects, results -/
inductive D where
  | non | bl (b : Bool) | int (i : Int) | str (s : List Nat)
  | tup (xs : List D) | lst (xs : List D) | fzl (xs : List D)
  | obj (n : Nat) | fn (x : Str) | ty (n : String)
  | dct (ps : List (List Nat × List Nat))
  | dic (t : Bool) (ks vs : List D)
inductive O where
  | lst (xs : List D)
  | dic (t : Bool) (ks vs : List D)
abbrev Sto := List O
structure EC where
  cls : Str
  arg : List D
inductive R (α : Type) where
  | ok (a : α) (s : Sto) | exc (c : EC) (s : Sto) | no
def R.bind {α β : Type} (r : R α) (f : α → Sto → R β) : R β := match r with
  | .ok a s => f a s
  | .exc c s => .exc c s
  | .no => .no
@[simp] theorem R.bind_ok {α β : Type} (a : α) (s : Sto) (f : α → Sto → R β) : (R.ok a s).bind f = f a s := rfl
@[simp] theorem R.bind_exc {α β : Type} (c : EC) (s : Sto) (f : α → Sto → R β) : (R.exc c s : R α).bind f = .exc c s := rfl
@[simp] theorem R.bind_no {α β : Type} (f : α → Sto → R β) : (R.no : R α).bind f = .no := rfl
def lift {α : Type} (o : Option α) (s : Sto) : R α := match o with
  | some a => .ok a s
  | none => .no
@[simp] theorem lift_some {α : Type} (a : α) (s : Sto) : lift (some a) s = .ok a s := rfl
@[simp] theorem lift_none {α : Type} (s : Sto) : lift (none : Option α) s = .no := rfl
abbrev Ev := List (Option D)
abbrev Exp := Ev → Sto → R D
abbrev Tst := Ev → Sto → R Bool
abbrev Exps := Ev → Sto → R (List D)
abbrev Fn := List D → Sto → R D
/-- behind a statement -/
inductive F where
  | nx (ρ : Ev) (s : Sto) | rt (d : D) (s : Sto) | bk (ρ : Ev) (s : Sto) | ct (ρ : Ev) (s : Sto) | exc (c : EC) (ρ : Ev) (s : Sto) | no
abbrev Sm := Ev → Sto → F

/-! ### what stands for what -/
def Ksq (K : PySem.W.Frag) (a : Addr) (xs : List V) : Prop := ∃ (o : Obj) (its : Array Value) (n : Nat), K.lookup a = some o ∧ o.cls = .type "list" ∧ o.dict = none ∧ o.data = .seq its n ∧ its.size ≤ sizeLine ∧ Vals xs its.toList
def Kon (K : PySem.W.Frag) (H : Hp) (a : Addr) (xs : List V) : Prop := (∃ o, H a = some (.frz o (.lst xs))) ∨ Ksq K a xs
/-- the objects of ours, and lists that are being made: nobody else has them -/
structure Io where
  o : List Addr
  p : List Addr
def Io.fre (ι : Io) (a : Addr) : Prop := a ∉ ι.o ∧ a ∉ ι.p
/-- keys: ints and texts; tuples of these -/
def keyK : D → Option Key
  | .int i => some (.inl i)
  | .str s => if s.length ≤ 16777216 then some (.inr ⟨s.toArray⟩) else none
  | _ => none
def keysK : List D → Option (List Key)
  | [] => some []
  | d :: r => match keyK d, keysK r with
    | some k, some ks => some (k :: ks)
    | _, _ => none
def keyT : D → Option (List Key)
  | .tup xs => keysK xs
  | _ => none
def dkv (p : List Nat × List Nat) : Key × V := (.inr ⟨p.1.toArray⟩, .str ⟨p.2.toArray⟩)
mutual
inductive Rep (K : PySem.W.Frag) (mg : Str → Option Value) (H : Hp) (ι : Io) : D → V → Prop
  | non : Rep K mg H ι .non .non
  | bl (b : Bool) : Rep K mg H ι (.bl b) (.bl b)
  | int (i : Int) : Rep K mg H ι (.int i) (.int i)
  | str (s : List Nat) (h : s.length ≤ 16777216) : Rep K mg H ι (.str s) (.str ⟨s.toArray⟩)
  | tup {a : Addr} {vs : List V} {ds : List D} : SqT K H a vs → Reps K mg H ι ds vs → Rep K mg H ι (.tup ds) (.ref a)
  | lst {a : Addr} {vs : List V} {ds : List D} : H a = some (.lst vs) → ι.fre a → Reps K mg H ι ds vs → Rep K mg H ι (.lst ds) (.ref a)
  | fzl {a : Addr} {vs : List V} {ds : List D} : Kon K H a vs → Reps K mg H ι ds vs → Rep K mg H ι (.fzl ds) (.ref a)
  | obj {n : Nat} {a : Addr} : ι.o[n]? = some a → Rep K mg H ι (.obj n) (.ref a)
  | fn {x : Str} {a : Addr} : mg x = some (.ref a) → Rep K mg H ι (.fn x) (.ref a)
  | ty (n : String) : Rep K mg H ι (.ty n) (.ty n)
  | dicK {a : Addr} {ks ds : List D} {kvs : List (Key × V)} : Rd H a (.dK kvs) → ι.fre a → ks.map keyK = kvs.map (fun p => some p.1) → Reps K mg H ι ds (kvs.map fun p => p.2) → Rep K mg H ι (.dic false ks ds) (.ref a)
  | dicT {a : Addr} {ks ds : List D} {kvs : List (List Key × V)} : Rd H a (.dT kvs) → ι.fre a → ks.map keyT = kvs.map (fun p => some p.1) → Reps K mg H ι ds (kvs.map fun p => p.2) → Rep K mg H ι (.dic true ks ds) (.ref a)
  | dct {a : Addr} {ps : List (List Nat × List Nat)} : Rd H a (.dK (ps.map dkv)) → ι.fre a → ps.all (fun p => decide (p.1.length ≤ 16777216 ∧ p.2.length ≤ 16777216)) = true → Rep K mg H ι (.dct ps) (.ref a)
inductive Reps (K : PySem.W.Frag) (mg : Str → Option Value) (H : Hp) (ι : Io) : List D → List V → Prop
  | nil : Reps K mg H ι [] []
  | cons {d : D} {ds : List D} {v : V} {vs : List V} : Rep K mg H ι d v → Reps K mg H ι ds vs → Reps K mg H ι (d :: ds) (v :: vs)
end

/-- the heap went on: what is not ours stands as it stood; new ones of ours are fresh -/
structure Adv (ι : Io) (H : Hp) (ι' : Io) (H' : Hp) : Prop where
  more : ∃ ex, ι'.o = ι.o ++ ex ∧ ∀ b ∈ ex, H b = none
  prot : ∃ pe, ι'.p = pe ++ ι.p ∧ ∀ b ∈ pe, H b = none
  keep : ∀ b o, H b = some o → b ∉ ι.o → H' b = some o
  there : ∀ b o, H b = some o → ∃ o', H' b = some o'
theorem Adv.refl (ι : Io) (H : Hp) : Adv ι H ι H := ⟨⟨[], by simp, fun _ h => nomatch h⟩, ⟨[], rfl, fun _ h => nomatch h⟩, fun _ _ h _ => h, fun _ o h => ⟨o, h⟩⟩
theorem Adv.trans {ι ι1 ι2 : Io} {H H1 H2 : Hp} (a : Adv ι H ι1 H1) (b : Adv ι1 H1 ι2 H2) : Adv ι H ι2 H2 := by
  obtain ⟨e1, q1, n1⟩ := a.more
  obtain ⟨e2, q2, n2⟩ := b.more
  obtain ⟨f1, r1, m1⟩ := a.prot
  obtain ⟨f2, r2, m2⟩ := b.prot
  have free : ∀ c, H1 c = none → H c = none := fun c h => by
    cases q : H c with
    | none => rfl
    | some o =>
      obtain ⟨o', z⟩ := a.there c o q
      rw [h] at z; cases z
  refine ⟨⟨e1 ++ e2, by rw [q2, q1]; simp, fun c hc => ?_⟩, ⟨f2 ++ f1, by rw [r2, r1]; simp, fun c hc => ?_⟩, fun c o h hn => ?_, fun c o h => ?_⟩
  · rcases List.mem_append.mp hc with hc | hc
    · exact n1 c hc
    · exact free c (n2 c hc)
  · rcases List.mem_append.mp hc with hc | hc
    · exact free c (m2 c hc)
    · exact m1 c hc
  · have h1 := a.keep c o h hn
    refine b.keep c o h1 fun hm => ?_
    rw [q1] at hm
    rcases List.mem_append.mp hm with hm | hm
    · exact hn hm
    · have := n1 c hm
      rw [h] at this; cases this
  · obtain ⟨o', h'⟩ := a.there c o h
    exact b.there c o' h'
theorem Adv.fre {ι ι' : Io} {H H' : Hp} (a : Adv ι H ι' H') {b : Addr} {o : HO} (h : H b = some o) (hn : ι.fre b) : ι'.fre b := by
  obtain ⟨e1, q1, n1⟩ := a.more
  refine ⟨fun hm => ?_, fun hm => ?_⟩
  · rw [q1] at hm
    rcases List.mem_append.mp hm with hm | hm
    · exact hn.1 hm
    · have := n1 b hm
      rw [h] at this; cases this
  · obtain ⟨f1, r1, m1⟩ := a.prot
    rw [r1] at hm
    rcases List.mem_append.mp hm with hm | hm
    · have := m1 b hm
      rw [h] at this; cases this
    · exact hn.2 hm
theorem Adv.rd {ι ι' : Io} {H H' : Hp} (a : Adv ι H ι' H') {b : Addr} {o : HO} (h : Rd H b o) (hn : b ∉ ι.o) : Rd H' b o := by
  rcases h with h | ⟨u, h⟩
  · exact .inl (a.keep _ _ h hn)
  · exact .inr ⟨u, a.keep _ _ h hn⟩
theorem Adv.freR {ι ι' : Io} {H H' : Hp} (a : Adv ι H ι' H') {b : Addr} {o : HO} (h : Rd H b o) (hn : ι.fre b) : ι'.fre b := by
  rcases h with h | ⟨u, h⟩
  · exact a.fre h hn
  · exact a.fre h hn
theorem Adv.pmem {ι ι' : Io} {H H' : Hp} (a : Adv ι H ι' H') {b : Addr} (h : b ∈ ι.p) : b ∈ ι'.p := by
  obtain ⟨f1, r1, _⟩ := a.prot
  rw [r1]; exact List.mem_append_right _ h
theorem Adv.get {ι ι' : Io} {H H' : Hp} (a : Adv ι H ι' H') {n : Nat} {b : Addr} (h : ι.o[n]? = some b) : ι'.o[n]? = some b := by
  obtain ⟨e1, q1, _⟩ := a.more
  have := (List.getElem?_eq_some_iff.mp h).1
  rw [q1, List.getElem?_append_left this]; exact h
/-- what may be ours: lists, dicts -/
def mutO : HO → Prop
  | .lst _ => True
  | .dK _ => True
  | .dT _ => True
  | _ => False
/-- tuples and locked things are none of ours -/
def Own (H : Hp) (ι : Io) : Prop := (∀ b ∈ ι.o, ∃ u, H b = some u ∧ mutO u) ∧ ∀ b ∈ ι.p, ∃ xs, H b = some (.lst xs)
theorem sqT_adv {K : PySem.W.Frag} {ι ι' : Io} {H H' : Hp} (a : Adv ι H ι' H') (ow : Own H ι) {b : Addr} {xs : List V} (h : SqT K H b xs) : SqT K H' b xs := by
  have no : ∀ o, H b = some o → ¬ mutO o → b ∉ ι.o := fun o e ne hm => by
    obtain ⟨u, z, m⟩ := ow.1 b hm
    rw [e] at z; cases z; exact ne m
  rcases h with (h | ⟨o, h⟩) | h
  · exact .inl (.inl (a.keep _ _ h (no _ h id)))
  · exact .inl (.inr ⟨o, a.keep _ _ h (no _ h id)⟩)
  · exact .inr h
theorem kon_adv {K : PySem.W.Frag} {ι ι' : Io} {H H' : Hp} (a : Adv ι H ι' H') (ow : Own H ι) {b : Addr} {xs : List V} (h : Kon K H b xs) : Kon K H' b xs := by
  rcases h with ⟨o, h⟩ | h
  · refine .inl ⟨o, a.keep _ _ h fun hm => ?_⟩
    obtain ⟨u, z, m⟩ := ow.1 b hm
    rw [h] at z; cases z; exact m
  · exact .inr h
theorem kon_sq {K : PySem.W.Frag} {H : Hp} {b : Addr} {xs : List V} (h : Kon K H b xs) : SqL K H b xs := by
  rcases h with ⟨o, h⟩ | h
  · exact .inl (.inr ⟨o, h⟩)
  · exact .inr h
section
variable {K : PySem.W.Frag} {mg : Str → Option Value} {ι ι' : Io} {H H' : Hp}
mutual
theorem Rep.adv (a : Adv ι H ι' H') (ow : Own H ι) : ∀ {d : D} {v : V}, Rep K mg H ι d v → Rep K mg H' ι' d v
  | _, _, .non => .non
  | _, _, .bl b => .bl b
  | _, _, .int i => .int i
  | _, _, .str s h => .str s h
  | _, _, .tup h t => .tup (sqT_adv a ow h) (Reps.adv a ow t)
  | _, _, .lst h n t => .lst (a.keep _ _ h n.1) (a.fre h n) (Reps.adv a ow t)
  | _, _, .fzl h t => .fzl (kon_adv a ow h) (Reps.adv a ow t)
  | _, _, .obj h => .obj (a.get h)
  | _, _, .fn h => .fn h
  | _, _, .ty n => .ty n
  | _, _, .dicK h n k t => .dicK (a.rd h n.1) (a.freR h n) k (Reps.adv a ow t)
  | _, _, .dicT h n k t => .dicT (a.rd h n.1) (a.freR h n) k (Reps.adv a ow t)
  | _, _, .dct h n k => .dct (a.rd h n.1) (a.freR h n) k
theorem Reps.adv (a : Adv ι H ι' H') (ow : Own H ι) : ∀ {ds : List D} {vs : List V}, Reps K mg H ι ds vs → Reps K mg H' ι' ds vs
  | _, _, .nil => .nil
  | _, _, .cons h t => .cons (Rep.adv a ow h) (Reps.adv a ow t)
end
theorem Reps.length : ∀ {ds : List D} {vs : List V}, Reps K mg H ι ds vs → ds.length = vs.length
  | _, _, .nil => rfl
  | _, _, .cons _ t => by simp [Reps.length t]
theorem Reps.get : ∀ {ds : List D} {vs : List V} {i : Nat} {d : D}, Reps K mg H ι ds vs → ds[i]? = some d → ∃ v, vs[i]? = some v ∧ Rep K mg H ι d v
  | _, _, _, _, .nil, e => by simp at e
  | _, _, 0, _, .cons r _, e => by simp at e; subst e; exact ⟨_, rfl, r⟩
  | _, _, i + 1, x, .cons _ t, e => by
    obtain ⟨u, h1, h2⟩ := Reps.get (i := i) (d := x) t (by simpa using e)
    exact ⟨u, by simpa using h1, h2⟩
theorem Reps.getV : ∀ {ds : List D} {vs : List V} {i : Nat} {v : V}, Reps K mg H ι ds vs → vs[i]? = some v → ∃ d, ds[i]? = some d ∧ Rep K mg H ι d v
  | _, _, _, _, .nil, e => by simp at e
  | _, _, 0, _, .cons r _, e => by simp at e; subst e; exact ⟨_, rfl, r⟩
  | _, _, i + 1, x, .cons _ t, e => by
    obtain ⟨u, h1, h2⟩ := Reps.getV (i := i) (v := x) t (by simpa using e)
    exact ⟨u, by simpa using h1, h2⟩
theorem Reps.append : ∀ {ds es : List D} {vs ws : List V}, Reps K mg H ι ds vs → Reps K mg H ι es ws → Reps K mg H ι (ds ++ es) (vs ++ ws)
  | _, _, _, _, .nil, s => s
  | _, _, _, _, .cons r t, s => .cons r (Reps.append t s)
theorem Reps.take : ∀ {ds : List D} {vs : List V} (n : Nat), Reps K mg H ι ds vs → Reps K mg H ι (ds.take n) (vs.take n)
  | _, _, 0, _ => by simpa using Reps.nil
  | _, _, _ + 1, .nil => .nil
  | _, _, n + 1, .cons r t => .cons r (Reps.take n t)
theorem Reps.drop : ∀ {ds : List D} {vs : List V} (n : Nat), Reps K mg H ι ds vs → Reps K mg H ι (ds.drop n) (vs.drop n)
  | _, _, 0, r => r
  | _, _, _ + 1, .nil => .nil
  | _, _, n + 1, .cons _ t => Reps.drop n t
theorem Reps.set {d : D} {v : V} (r : Rep K mg H ι d v) : ∀ {ds : List D} {vs : List V} (i : Nat), Reps K mg H ι ds vs → Reps K mg H ι (ds.set i d) (vs.set i v)
  | _, _, _, .nil => .nil
  | _, _, 0, .cons _ t => .cons r t
  | _, _, i + 1, .cons q t => .cons q (Reps.set r i t)
theorem Reps.reverse {ds : List D} {vs : List V} (h : Reps K mg H ι ds vs) : Reps K mg H ι ds.reverse vs.reverse := by
  induction ds generalizing vs with
  | nil => cases h; exact .nil
  | cons d ds ih =>
    cases h with
    | cons r t => rw [List.reverse_cons, List.reverse_cons]; exact (ih t).append (.cons r .nil)
theorem Reps.replicate {d : D} {v : V} (r : Rep K mg H ι d v) : ∀ n : Nat, Reps K mg H ι (List.replicate n d) (List.replicate n v)
  | 0 => .nil
  | n + 1 => .cons r (Reps.replicate r n)
theorem Reps.flatten_rep {ds : List D} {vs : List V} (r : Reps K mg H ι ds vs) : ∀ n : Nat, Reps K mg H ι (List.replicate n ds).flatten (List.replicate n vs).flatten
  | 0 => .nil
  | n + 1 => by
    rw [List.replicate_succ, List.replicate_succ, List.flatten_cons, List.flatten_cons]
    exact r.append (Reps.flatten_rep r n)

theorem nodup_at {N : List Addr} (hN : N.Nodup) {i j : Nat} {x : Addr} (a : N[i]? = some x) (b : N[j]? = some x) : i = j := by
  obtain ⟨h1, e1⟩ := List.getElem?_eq_some_iff.mp a
  obtain ⟨h2, e2⟩ := List.getElem?_eq_some_iff.mp b
  exact (List.getElem_inj hN).mp (e1.trans e2.symm)
/-- the store -/
def OR (K : PySem.W.Frag) (mg : Str → Option Value) (H : Hp) (ι : Io) (a : Addr) : O → Prop
  | .lst ds => ∃ vs, H a = some (.lst vs) ∧ Reps K mg H ι ds vs
  | .dic false ks ds => ∃ kvs : List (Key × V), H a = some (.dK kvs) ∧ ks.map keyK = kvs.map (fun p => some p.1) ∧ Reps K mg H ι ds (kvs.map fun p => p.2)
  | .dic true ks ds => ∃ kvs : List (List Key × V), H a = some (.dT kvs) ∧ ks.map keyT = kvs.map (fun p => some p.1) ∧ Reps K mg H ι ds (kvs.map fun p => p.2)
theorem OR.go {ι2 : Io} {H2 : Hp} {a : Addr} {o : O} (q : OR K mg H ι a o) (k : ∀ u, H a = some u → H2 a = some u) (g : ∀ {ds : List D} {vs : List V}, Reps K mg H ι ds vs → Reps K mg H2 ι2 ds vs) : OR K mg H2 ι2 a o := by
  cases o with
  | lst ds =>
    obtain ⟨vs, e, r⟩ := q
    exact ⟨vs, k _ e, g r⟩
  | dic t ks ds =>
    cases t with
    | false =>
      obtain ⟨kvs, e, h, r⟩ := q
      exact ⟨kvs, k _ e, h, g r⟩
    | true =>
      obtain ⟨kvs, e, h, r⟩ := q
      exact ⟨kvs, k _ e, h, g r⟩
theorem OR.mut {a : Addr} {o : O} (q : OR K mg H ι a o) : ∃ u, H a = some u ∧ mutO u := by
  cases o with
  | lst ds =>
    obtain ⟨vs, e, r⟩ := q
    exact ⟨_, e, trivial⟩
  | dic t ks ds =>
    cases t with
    | false =>
      obtain ⟨kvs, e, h, r⟩ := q
      exact ⟨_, e, trivial⟩
    | true =>
      obtain ⟨kvs, e, h, r⟩ := q
      exact ⟨_, e, trivial⟩
structure StR (K : PySem.W.Frag) (mg : Str → Option Value) (H : Hp) (ι : Io) (s : Sto) : Prop where
  len : ι.o.length = s.length
  nd : ι.o.Nodup
  prot : ∀ b ∈ ι.p, ∃ xs, H b = some (.lst xs)
  apart : ∀ b ∈ ι.p, b ∉ ι.o
  at_ : ∀ (i : Nat) (a : Addr) (o : O), ι.o[i]? = some a → s[i]? = some o → OR K mg H ι a o
theorem StR.own {s : Sto} (h : StR K mg H ι s) : Own H ι := ⟨fun b hb => by
  obtain ⟨i, hi, e⟩ := List.getElem_of_mem hb
  have h1 : ι.o[i]? = some b := by rw [List.getElem?_eq_getElem hi, e]
  have h2 : i < s.length := by rw [← h.len]; exact hi
  have h3 := h.at_ i b s[i] h1 (List.getElem?_eq_getElem h2)
  exact h3.mut, h.prot⟩
theorem Own.fresh (h : Own H ι) {p : Addr} (hp : H p = none) : ι.fre p := by
  refine ⟨fun hm => ?_, fun hm => ?_⟩
  · obtain ⟨xs, e, _⟩ := h.1 p hm
    rw [hp] at e; cases e
  · obtain ⟨xs, e⟩ := h.2 p hm
    rw [hp] at e; cases e
theorem adv_keep (ι : Io) (k : ∀ b o, H b = some o → H' b = some o) : Adv ι H ι H' := ⟨⟨[], by simp, fun _ h => nomatch h⟩, ⟨[], rfl, fun _ h => nomatch h⟩, fun b o e _ => k b o e, fun b o e => ⟨o, k b o e⟩⟩
theorem adv_upd {p : Addr} {o : HO} (ι : Io) (h : H p = none) : Adv ι H ι (upd H p o) := adv_keep ι fun b u e => by rw [upd_ne (ne_of_none e h)]; exact e
/-- nothing of ours was changed: the store goes on -/
theorem StR.keep {s : Sto} (h : StR K mg H ι s) (k : ∀ b o, H b = some o → H' b = some o) : StR K mg H' ι s := by
  have a : Adv ι H ι H' := adv_keep ι k
  refine ⟨h.len, h.nd, fun b hb => ?_, h.apart, fun i b o e1 e2 => ?_⟩
  · obtain ⟨xs, e⟩ := h.prot b hb
    exact ⟨xs, k _ _ e⟩
  · exact (h.at_ i b o e1 e2).go (fun u e => k _ _ e) fun r => r.adv a h.own
theorem StR.upd {s : Sto} (h : StR K mg H ι s) {p : Addr} {o : HO} (hp : H p = none) : StR K mg (L2.upd H p o) ι s := h.keep fun b u e => by rw [upd_ne (ne_of_none e hp)]; exact e
abbrev Io.add (ι : Io) (p : Addr) : Io := ⟨ι.o ++ [p], ι.p⟩
/-- a list that stands becomes an object of ours -/
theorem StR.adopt {s : Sto} (h : StR K mg H ι s) {p : Addr} {ds : List D} {vs : List V} (hp : H p = some (.lst vs)) (hf : ι.fre p) (go : ∀ {d : D} {v : V}, Rep K mg H ι d v → Rep K mg H (ι.add p) d v) (r : Reps K mg H (ι.add p) ds vs) :
    StR K mg H (ι.add p) (s ++ [.lst ds]) := by
  have gos : ∀ {ds : List D} {vs : List V}, Reps K mg H ι ds vs → Reps K mg H (ι.add p) ds vs := fun {ds vs} r => by
    induction ds generalizing vs with
    | nil => cases r; exact .nil
    | cons d ds ih => cases r with | cons r t => exact .cons (go r) (ih t)
  refine ⟨by simp [h.len], ?_, h.prot, fun b hb hm => ?_, fun i b o e1 e2 => ?_⟩
  · rw [List.nodup_append]
    exact ⟨h.nd, by simp, fun x hx y hy e => hf.1 (by rw [List.mem_singleton.mp hy] at e; rw [← e]; exact hx)⟩
  · rcases List.mem_append.mp hm with hm | hm
    · exact h.apart b hb hm
    · rw [List.mem_singleton.mp hm] at hb
      exact hf.2 hb
  · by_cases hi : i < ι.o.length
    · rw [List.getElem?_append_left hi] at e1
      rw [List.getElem?_append_left (by rw [← h.len]; exact hi)] at e2
      exact (h.at_ i b o e1 e2).go (fun u e => e) fun r => gos r
    · have hi' : i = ι.o.length := by
        have := (List.getElem?_eq_some_iff.mp e1).1
        simp at this; omega
      subst hi'
      rw [List.getElem?_append_right (Nat.le_refl _), Nat.sub_self] at e1
      rw [List.getElem?_append_right (by rw [h.len]; exact Nat.le_refl _), h.len, Nat.sub_self] at e2
      simp at e1 e2
      subst e1 e2
      exact ⟨vs, hp, r⟩
/-- a new object of ours -/
theorem StR.allocG {s : Sto} (h : StR K mg H ι s) {p : Addr} {o : O} {u : HO} (hp : H p = none) (r : Adv ι H (ι.add p) (L2.upd H p u) → OR K mg (L2.upd H p u) (ι.add p) p o) :
    StR K mg (L2.upd H p u) (ι.add p) (s ++ [o]) ∧ Adv ι H (ι.add p) (L2.upd H p u) := by
  have a : Adv ι H (ι.add p) (L2.upd H p u) := ⟨⟨[p], rfl, fun b hb => by rw [List.mem_singleton.mp hb]; exact hp⟩, ⟨[], rfl, fun _ h => nomatch h⟩, fun b u e _ => by rw [upd_ne (ne_of_none e hp)]; exact e, fun b u e => ⟨u, by rw [upd_ne (ne_of_none e hp)]; exact e⟩⟩
  have hf := h.own.fresh hp
  refine ⟨⟨by simp [h.len], ?_, fun b hb => ?_, fun b hb hm => ?_, fun i b o e1 e2 => ?_⟩, a⟩
  · rw [List.nodup_append]
    exact ⟨h.nd, by simp, fun x hx y hy e => hf.1 (by rw [List.mem_singleton.mp hy] at e; rw [← e]; exact hx)⟩
  · obtain ⟨xs, e⟩ := h.prot b hb
    exact ⟨xs, by rw [upd_ne (ne_of_none e hp)]; exact e⟩
  · rcases List.mem_append.mp hm with hm | hm
    · exact h.apart b hb hm
    · rw [List.mem_singleton.mp hm] at hb
      exact hf.2 hb
  · by_cases hi : i < ι.o.length
    · rw [List.getElem?_append_left hi] at e1
      rw [List.getElem?_append_left (by rw [← h.len]; exact hi)] at e2
      exact (h.at_ i b o e1 e2).go (fun u e => by rw [upd_ne (ne_of_none e hp)]; exact e) fun r => r.adv a h.own
    · have hi' : i = ι.o.length := by
        have := (List.getElem?_eq_some_iff.mp e1).1
        simp at this; omega
      subst hi'
      rw [List.getElem?_append_right (Nat.le_refl _), Nat.sub_self] at e1
      rw [List.getElem?_append_right (by rw [h.len]; exact Nat.le_refl _), h.len, Nat.sub_self] at e2
      simp at e1 e2
      subst e1 e2
      exact r a
theorem StR.alloc {s : Sto} (h : StR K mg H ι s) {p : Addr} {ds : List D} {vs : List V} (hp : H p = none) (r : Reps K mg H ι ds vs) :
    StR K mg (L2.upd H p (.lst vs)) (ι.add p) (s ++ [.lst ds]) ∧ Adv ι H (ι.add p) (L2.upd H p (.lst vs)) :=
  h.allocG hp fun a => ⟨vs, upd_same, r.adv a h.own⟩
/-- an object of ours changed -/
theorem StR.setG {s : Sto} (h : StR K mg H ι s) {n : Nat} {p : Addr} {o : O} {u : HO} (hp : ι.o[n]? = some p) (r : Adv ι H ι (L2.upd H p u) → OR K mg (L2.upd H p u) ι p o) :
    StR K mg (L2.upd H p u) ι (s.set n o) ∧ Adv ι H ι (L2.upd H p u) := by
  have pm : p ∈ ι.o := List.mem_of_getElem? hp
  have a : Adv ι H ι (L2.upd H p u) := by
    refine ⟨⟨[], by simp, fun _ h => nomatch h⟩, ⟨[], rfl, fun _ h => nomatch h⟩, fun b u e hn => ?_, fun b u e => ?_⟩
    · rw [upd_ne (fun z => hn (by rw [z]; exact pm))]; exact e
    · by_cases hb : b = p
      · subst hb; exact ⟨_, upd_same⟩
      · exact ⟨u, by rw [upd_ne hb]; exact e⟩
  refine ⟨⟨by simp [h.len], h.nd, fun b hb => ?_, h.apart, fun i b o e1 e2 => ?_⟩, a⟩
  · obtain ⟨xs, e⟩ := h.prot b hb
    have hbp : b ≠ p := fun z => h.apart b hb (by rw [z]; exact pm)
    exact ⟨xs, by rw [upd_ne hbp]; exact e⟩
  · by_cases hi : i = n
    · subst hi
      rw [hp] at e1; cases e1
      have hl : i < s.length := by rw [← h.len]; exact (List.getElem?_eq_some_iff.mp hp).1
      rw [List.getElem?_set_self hl] at e2
      cases e2
      exact r a
    · rw [List.getElem?_set_ne (Ne.symm hi)] at e2
      have hb : b ≠ p := fun z => by
        subst z
        exact hi (nodup_at h.nd e1 hp)
      exact (h.at_ i b o e1 e2).go (fun u e => by rw [upd_ne hb]; exact e) fun r => r.adv a h.own
theorem StR.set {s : Sto} (h : StR K mg H ι s) {n : Nat} {p : Addr} {ds : List D} {vs : List V} (hp : ι.o[n]? = some p) (r : Reps K mg H ι ds vs) :
    StR K mg (L2.upd H p (.lst vs)) ι (s.set n (.lst ds)) ∧ Adv ι H ι (L2.upd H p (.lst vs)) :=
  h.setG hp fun a => ⟨vs, upd_same, r.adv a h.own⟩
/-! a protected list grows: nothing else has it -/
section
variable {L : Addr} {ws : List V}
theorem sqT_prot (hL : L ∈ ι.p) (ow : Own H ι) {b : Addr} {xs : List V} (h : SqT K H b xs) : SqT K (L2.upd H L (.lst ws)) b xs := by
  have no : ∀ o, H b = some o → (∀ ys, o ≠ .lst ys) → b ≠ L := fun o e ne z => by
    obtain ⟨ys, q⟩ := ow.2 L hL
    rw [← z, e] at q; exact ne ys (Option.some.inj q)
  rcases h with (h | ⟨o, h⟩) | h
  · exact .inl (.inl (by rw [upd_ne (no _ h fun _ z => nomatch z)]; exact h))
  · exact .inl (.inr ⟨o, by rw [upd_ne (no _ h fun _ z => nomatch z)]; exact h⟩)
  · exact .inr h
mutual
theorem Rep.prot (hL : L ∈ ι.p) (ow : Own H ι) : ∀ {d : D} {v : V}, Rep K mg H ι d v → Rep K mg (L2.upd H L (.lst ws)) ι d v
  | _, _, .non => .non
  | _, _, .bl b => .bl b
  | _, _, .int i => .int i
  | _, _, .str s h => .str s h
  | _, _, .tup h t => .tup (sqT_prot hL ow h) (Reps.prot hL ow t)
  | _, _, .lst h n t => .lst (by rw [upd_ne (fun z => n.2 (by rw [z]; exact hL))]; exact h) n (Reps.prot hL ow t)
  | _, _, .fzl h t => .fzl (by
      rcases h with ⟨o, h⟩ | h
      · refine .inl ⟨o, ?_⟩
        rw [upd_ne (fun z => by
          obtain ⟨ys, q⟩ := ow.2 L hL
          rw [← z, h] at q; cases q)]
        exact h
      · exact .inr h) (Reps.prot hL ow t)
  | _, _, .obj h => .obj h
  | _, _, .fn h => .fn h
  | _, _, .ty n => .ty n
  | _, _, .dicK h n k t => .dicK (by unfold Rd; rw [upd_ne (fun z => n.2 (by rw [z]; exact hL))]; exact h) n k (Reps.prot hL ow t)
  | _, _, .dicT h n k t => .dicT (by unfold Rd; rw [upd_ne (fun z => n.2 (by rw [z]; exact hL))]; exact h) n k (Reps.prot hL ow t)
  | _, _, .dct h n k => .dct (by unfold Rd; rw [upd_ne (fun z => n.2 (by rw [z]; exact hL))]; exact h) n k
theorem Reps.prot (hL : L ∈ ι.p) (ow : Own H ι) : ∀ {ds : List D} {vs : List V}, Reps K mg H ι ds vs → Reps K mg (L2.upd H L (.lst ws)) ι ds vs
  | _, _, .nil => .nil
  | _, _, .cons h t => .cons (Rep.prot hL ow h) (Reps.prot hL ow t)
end
theorem StR.protS (hL : L ∈ ι.p) (ow : Own H ι) {s : Sto} (h : StR K mg H ι s) : StR K mg (L2.upd H L (.lst ws)) ι s := by
  refine ⟨h.len, h.nd, fun b hb => ?_, h.apart, fun i b o e1 e2 => ?_⟩
  · by_cases e : b = L
    · subst e; exact ⟨_, upd_same⟩
    · obtain ⟨xs, q⟩ := h.prot b hb
      exact ⟨xs, by rw [upd_ne e]; exact q⟩
  · have q := h.at_ i b o e1 e2
    have hb : b ≠ L := fun z => h.apart L hL (by rw [← z]; exact List.mem_of_getElem? e1)
    exact q.go (fun u e => by rw [upd_ne hb]; exact e) fun r => Reps.prot hL ow r
end

/-- the slots -/
def SlotR (K : PySem.W.Frag) (mg : Str → Option Value) (H : Hp) (ι : Io) : Option D → Option V → Prop
  | some d, some v => Rep K mg H ι d v
  | some _, none => False
  | none, _ => True
abbrev EnvR (K : PySem.W.Frag) (mg : Str → Option Value) (H : Hp) (ι : Io) (ρ : Ev) (σ : L2.St) : Prop := Paired (SlotR K mg H ι) ρ σ
theorem EnvR.adv (a : Adv ι H ι' H') (ow : Own H ι) {ρ : Ev} {σ : L2.St} (h : EnvR K mg H ι ρ σ) : EnvR K mg H' ι' ρ σ := by
  refine Paired.mapP h fun d v q => ?_
  cases d with
  | none => trivial
  | some d =>
    cases v with
    | none => exact q
    | some v => exact Rep.adv a ow q
theorem EnvR.get {ρ : Ev} {σ : L2.St} {i : Nat} {d : D} (h : EnvR K mg H ι ρ σ) (e : ρ[i]? = some (some d)) : ∃ v, σ[i]? = some (some v) ∧ Rep K mg H ι d v := by
  induction h generalizing i with
  | nil => simp at e
  | @cons a b as bs r t ih =>
    cases i with
    | zero =>
      simp at e; subst e
      cases b with
      | none => exact (r : False).elim
      | some v => exact ⟨v, rfl, r⟩
    | succ i => exact ih (by simpa using e)
theorem EnvR.set {ρ : Ev} {σ : L2.St} (h : EnvR K mg H ι ρ σ) (i : Nat) {d : D} {v : V} (r : Rep K mg H ι d v) : EnvR K mg H ι (ρ.set i (some d)) (σ.set i (some v)) := by
  induction h generalizing i with
  | nil => exact .nil
  | cons r' t ih =>
    cases i with
    | zero => exact .cons r t
    | succ i => exact .cons r' (ih i)
theorem EnvR.unset {ρ : Ev} {σ : L2.St} (h : EnvR K mg H ι ρ σ) (i : Nat) (o : Option V) : EnvR K mg H ι (ρ.set i none) (σ.set i o) := by
  induction h generalizing i with
  | nil => exact .nil
  | cons r' t ih =>
    cases i with
    | zero => exact .cons trivial t
    | succ i => exact .cons r' (ih i)
end
end Z

set_option Elab.async false
set_option linter.all false
set_option maxRecDepth 100000
set_option maxHeartbeats 2000000
namespace Z
open PySem PySem.Spec PyProof.Rows L2

/-! ### equality of data -/
mutual
def D.beq : D → D → Bool
  | .non, .non => true
  | .bl a, .bl b => a == b
  | .int a, .int b => a == b
  | .str a, .str b => a == b
  | .tup a, .tup b => D.beqs a b
  | .lst a, .lst b => D.beqs a b
  | .fzl a, .fzl b => D.beqs a b
  | .obj a, .obj b => a == b
  | .fn a, .fn b => decide (a = b)
  | .ty a, .ty b => a == b
  | .dct a, .dct b => decide (a = b)
  | .dic t a x, .dic u b y => t == u && (D.beqs a b && D.beqs x y)
  | _, _ => false
def D.beqs : List D → List D → Bool
  | [], [] => true
  | x :: xs, y :: ys => D.beq x y && D.beqs xs ys
  | _, _ => false
end
mutual
theorem D.beq_refl : ∀ d : D, D.beq d d = true
  | .non => rfl
  | .bl b => by simp [D.beq]
  | .int i => by simp [D.beq]
  | .str s => by simp [D.beq]
  | .tup xs => by rw [D.beq]; exact D.beqs_refl xs
  | .lst xs => by rw [D.beq]; exact D.beqs_refl xs
  | .fzl xs => by rw [D.beq]; exact D.beqs_refl xs
  | .obj n => by simp [D.beq]
  | .fn x => by simp [D.beq]
  | .ty x => by simp [D.beq]
  | .dct x => by simp [D.beq]
  | .dic t a x => by rw [D.beq, D.beqs_refl a, D.beqs_refl x]; simp
theorem D.beqs_refl : ∀ ds : List D, D.beqs ds ds = true
  | [] => rfl
  | d :: ds => by rw [D.beqs, D.beq_refl d, D.beqs_refl ds]; rfl
end
mutual
theorem D.eq_of_beq : ∀ (d e : D), D.beq d e = true → d = e
  | .non, e, h => by cases e <;> simp_all [D.beq]
  | .bl b, e, h => by cases e <;> simp_all [D.beq]
  | .int i, e, h => by cases e <;> simp_all [D.beq]
  | .str s, e, h => by cases e <;> simp_all [D.beq]
  | .tup xs, e, h => by
    cases e with
    | tup ys => rw [D.beq] at h; rw [D.eqs_of_beqs xs ys h]
    | _ => simp [D.beq] at h
  | .lst xs, e, h => by
    cases e with
    | lst ys => rw [D.beq] at h; rw [D.eqs_of_beqs xs ys h]
    | _ => simp [D.beq] at h
  | .fzl xs, e, h => by
    cases e with
    | fzl ys => rw [D.beq] at h; rw [D.eqs_of_beqs xs ys h]
    | _ => simp [D.beq] at h
  | .obj n, e, h => by cases e <;> simp_all [D.beq]
  | .fn x, e, h => by cases e <;> simp_all [D.beq]
  | .ty x, e, h => by cases e <;> simp_all [D.beq]
  | .dct x, e, h => by cases e <;> simp_all [D.beq]
  | .dic t a x, e, h => by
    cases e with
    | dic u b y => rw [D.beq, Bool.and_eq_true, Bool.and_eq_true, beq_iff_eq] at h; rw [h.1, D.eqs_of_beqs a b h.2.1, D.eqs_of_beqs x y h.2.2]
    | _ => simp [D.beq] at h
theorem D.eqs_of_beqs : ∀ (d e : List D), D.beqs d e = true → d = e
  | [], [], _ => rfl
  | [], _ :: _, h => by simp [D.beqs] at h
  | _ :: _, [], h => by simp [D.beqs] at h
  | x :: xs, y :: ys, h => by
    rw [D.beqs, Bool.and_eq_true] at h
    rw [D.eq_of_beq x y h.1, D.eqs_of_beqs xs ys h.2]
end
instance : DecidableEq D := fun a b => if h : D.beq a b = true then .isTrue (D.eq_of_beq a b h) else .isFalse fun e => h (by rw [e]; exact D.beq_refl b)
instance : DecidableEq O := fun a b => match a, b with
  | .lst xs, .lst ys => if h : xs = ys then .isTrue (by rw [h]) else .isFalse fun e => h (by injection e)
  | .dic t a x, .dic u b y => if h : t = u ∧ a = b ∧ x = y then .isTrue (by rw [h.1, h.2.1, h.2.2]) else .isFalse fun e => h (by injection e with e0 e1 e2; exact ⟨e0, e1, e2⟩)
  | .lst _, .dic _ _ _ => .isFalse (fun e => nomatch e)
  | .dic _ _ _, .lst _ => .isFalse (fun e => nomatch e)

/-! ### old ids -/
mutual
def olds (n : Nat) : D → Bool
  | .obj j => decide (j < n)
  | .tup xs => oldsL n xs
  | .lst xs => oldsL n xs
  | .fzl xs => oldsL n xs
  | .dic _ _ xs => oldsL n xs
  | _ => true
def oldsL (n : Nat) : List D → Bool
  | [] => true
  | x :: xs => olds n x && oldsL n xs
end
def mapO {α β : Type} (f : α → Option β) : List α → Option (List β)
  | [] => some []
  | x :: xs => match f x with
    | some y => match mapO f xs with
      | some ys => some (y :: ys)
      | none => none
    | none => none
/-- new objects of ours in a value are frozen -/
def fz (s : Sto) (n0 : Nat) : Nat → D → Option D
  | 0, d => if olds n0 d = true then some d else none
  | k + 1, d => if olds n0 d = true then some d else match d with
    | .obj j => match s[j]? with
      | some (.lst xs) => (mapO (fz s n0 k) xs).map .lst
      | some (.dic t ks xs) => (mapO (fz s n0 k) xs).map (.dic t ks)
      | none => none
    | .dic t ks xs => (mapO (fz s n0 k) xs).map (.dic t ks)
    | .tup xs => (mapO (fz s n0 k) xs).map .tup
    | .lst xs => (mapO (fz s n0 k) xs).map .lst
    | _ => none
def oldsO (n : Nat) : O → Bool
  | .lst xs => oldsL n xs
  | .dic _ _ xs => oldsL n xs

section
variable {K : PySem.W.Frag} {mg : Str → Option Value} {ι : Io} {ex : List Addr} {H H' : Hp}
abbrev Io.more (ι : Io) (ex : List Addr) : Io := ⟨ι.o ++ ex, ι.p⟩
mutual
theorem Rep.olds : ∀ {d : D} {v : V}, Rep K mg H ι d v → olds ι.o.length d = true
  | _, _, .non => rfl
  | _, _, .bl b => rfl
  | _, _, .int i => rfl
  | _, _, .str s h => rfl
  | _, _, .tup h t => by rw [Z.olds]; exact Reps.olds t
  | _, _, .lst h n t => by rw [Z.olds]; exact Reps.olds t
  | _, _, .fzl h t => by rw [Z.olds]; exact Reps.olds t
  | _, _, .obj h => by rw [Z.olds]; exact decide_eq_true (List.getElem?_eq_some_iff.mp h).1
  | _, _, .fn h => rfl
  | _, _, .ty n => rfl
  | _, _, .dicK h n k t => by rw [Z.olds]; exact Reps.olds t
  | _, _, .dicT h n k t => by rw [Z.olds]; exact Reps.olds t
  | _, _, .dct h n k => rfl
theorem Reps.olds : ∀ {ds : List D} {vs : List V}, Reps K mg H ι ds vs → oldsL ι.o.length ds = true
  | _, _, .nil => rfl
  | _, _, .cons h t => by rw [oldsL, Rep.olds h, Reps.olds t]; rfl
end
mutual
theorem Rep.shrinkTo {ex' : List Addr} (hs : ∀ b ∈ ex', b ∈ ex) : ∀ {d : D} {v : V}, Rep K mg H (ι.more ex) d v → Z.olds ι.o.length d = true → Rep K mg H (ι.more ex') d v
  | _, _, .non, _ => .non
  | _, _, .bl b, _ => .bl b
  | _, _, .int i, _ => .int i
  | _, _, .str s h, _ => .str s h
  | _, _, .tup h t, o => .tup h (Reps.shrinkTo hs t (by rw [Z.olds] at o; exact o))
  | _, _, .lst h n t, o => .lst h ⟨fun m => n.1 (by
      rcases List.mem_append.mp m with m | m
      · exact List.mem_append_left _ m
      · exact List.mem_append_right _ (hs _ m)), n.2⟩ (Reps.shrinkTo hs t (by rw [Z.olds] at o; exact o))
  | _, _, .fzl h t, o => .fzl h (Reps.shrinkTo hs t (by rw [Z.olds] at o; exact o))
  | _, _, .obj h, o => .obj (by
      rw [Z.olds] at o
      have o' := of_decide_eq_true o
      have h : (ι.o ++ ex)[_]? = _ := h
      show (ι.o ++ ex')[_]? = _
      rw [List.getElem?_append_left o'] at h ⊢; exact h)
  | _, _, .fn h, _ => .fn h
  | _, _, .ty n, _ => .ty n
  | _, _, .dicK h n k t, o => .dicK h ⟨fun m => n.1 (by
      rcases List.mem_append.mp m with m | m
      · exact List.mem_append_left _ m
      · exact List.mem_append_right _ (hs _ m)), n.2⟩ k (Reps.shrinkTo hs t (by rw [Z.olds] at o; exact o))
  | _, _, .dicT h n k t, o => .dicT h ⟨fun m => n.1 (by
      rcases List.mem_append.mp m with m | m
      · exact List.mem_append_left _ m
      · exact List.mem_append_right _ (hs _ m)), n.2⟩ k (Reps.shrinkTo hs t (by rw [Z.olds] at o; exact o))
  | _, _, .dct h n k, _ => .dct h ⟨fun m => n.1 (by
      rcases List.mem_append.mp m with m | m
      · exact List.mem_append_left _ m
      · exact List.mem_append_right _ (hs _ m)), n.2⟩ k
theorem Reps.shrinkTo {ex' : List Addr} (hs : ∀ b ∈ ex', b ∈ ex) : ∀ {ds : List D} {vs : List V}, Reps K mg H (ι.more ex) ds vs → oldsL ι.o.length ds = true → Reps K mg H (ι.more ex') ds vs
  | _, _, .nil, _ => .nil
  | _, _, .cons h t, o => by
    rw [oldsL, Bool.and_eq_true] at o
    exact .cons (Rep.shrinkTo hs h o.1) (Reps.shrinkTo hs t o.2)
end
theorem more_nil (ι : Io) : ι.more [] = ι := by obtain ⟨o, p⟩ := ι; simp [Io.more]
theorem Rep.shrink {d : D} {v : V} (h : Rep K mg H (ι.more ex) d v) (o : Z.olds ι.o.length d = true) : Rep K mg H ι d v := by
  have := h.shrinkTo (ex' := []) (fun _ h => nomatch h) o
  rw [more_nil] at this; exact this
theorem Reps.shrink {d : List D} {v : List V} (h : Reps K mg H (ι.more ex) d v) (o : oldsL ι.o.length d = true) : Reps K mg H ι d v := by
  have := h.shrinkTo (ex' := []) (fun _ h => nomatch h) o
  rw [more_nil] at this; exact this
theorem mapO_reps {f : D → Option D} {ι' : Io} (hf : ∀ d d' v, f d = some d' → Rep K mg H ι' d v → Rep K mg H ι d' v) : ∀ {ds ds' : List D} {vs : List V}, mapO f ds = some ds' → Reps K mg H ι' ds vs → Reps K mg H ι ds' vs
  | [], ds', vs, e, r => by cases r; rw [mapO] at e; cases e; exact .nil
  | d :: ds, ds', vs, e, r => by
    cases r with
    | cons r t =>
      rw [mapO] at e
      cases h1 : f d with
      | none => rw [h1] at e; cases e
      | some y =>
        cases h2 : mapO f ds with
        | none => rw [h1, h2] at e; cases e
        | some ys =>
          rw [h1, h2] at e; cases e
          exact .cons (hf _ _ _ h1 r) (mapO_reps hf h2 t)
theorem fz_ok {s : Sto} (S : StR K mg H (ι.more ex) s) : ∀ (k : Nat) (d d' : D) (v : V), fz s ι.o.length k d = some d' → Rep K mg H (ι.more ex) d v → Rep K mg H ι d' v
  | 0, d, d', v, e, r => by
    unfold fz at e
    split at e
    · rename_i h
      cases e
      exact r.shrink h
    · cases e
  | k + 1, d, d', v, e, r => by
    by_cases h : Z.olds ι.o.length d = true
    · unfold fz at e
      rw [if_pos h] at e
      cases e
      exact r.shrink h
    · unfold fz at e
      rw [if_neg h] at e
      have go : ∀ ds, (∀ vs, Reps K mg H (ι.more ex) ds vs → ∀ ys, mapO (fz s ι.o.length k) ds = some ys → Reps K mg H ι ys vs) := fun ds vs rr ys hm => mapO_reps (fun d d' v => fz_ok S k d d' v) hm rr
      cases r with
      | @obj n a hn =>
        have hl : n < s.length := by rw [← S.len]; exact (List.getElem?_eq_some_iff.mp hn).1
        have e1 := List.getElem?_eq_getElem hl
        have q := S.at_ n a _ hn e1
        have hfre : ι.fre a := ⟨fun hmem => by
            obtain ⟨i, hi, ei⟩ := List.getElem_of_mem hmem
            have h1 : (ι.o ++ ex)[i]? = some a := by rw [List.getElem?_append_left hi, List.getElem?_eq_getElem hi, ei]
            have h2 := nodup_at S.nd h1 hn
            rw [Z.olds] at h
            exact h (decide_eq_true (by omega)), fun hmem => S.apart a hmem (List.mem_of_getElem? hn)⟩
        cases hs : s[n] with
        | lst xs =>
          rw [hs] at e1 q
          simp only [e1] at e
          obtain ⟨vs, hv, rr⟩ := q
          cases hm : mapO (fz s ι.o.length k) xs with
          | none => rw [hm] at e; cases e
          | some ys =>
            rw [hm] at e; cases e
            exact .lst hv hfre (go xs vs rr ys hm)
        | dic t ks xs =>
          rw [hs] at e1 q
          simp only [e1] at e
          cases hm : mapO (fz s ι.o.length k) xs with
          | none => rw [hm] at e; cases e
          | some ys =>
            rw [hm] at e; cases e
            cases t with
            | false =>
              obtain ⟨kvs, hv, hk, rr⟩ := q
              exact .dicK (.inl hv) hfre hk (go xs _ rr ys hm)
            | true =>
              obtain ⟨kvs, hv, hk, rr⟩ := q
              exact .dicT (.inl hv) hfre hk (go xs _ rr ys hm)
      | @tup a vs ds h1 t =>
        simp only at e
        cases hm : mapO (fz s ι.o.length k) ds with
        | none => rw [hm] at e; cases e
        | some ys =>
          rw [hm] at e; cases e
          exact .tup h1 (go ds vs t ys hm)
      | @lst a vs ds h1 hn t =>
        simp only at e
        cases hm : mapO (fz s ι.o.length k) ds with
        | none => rw [hm] at e; cases e
        | some ys =>
          rw [hm] at e; cases e
          exact .lst h1 ⟨fun m => hn.1 (List.mem_append_left _ m), hn.2⟩ (go ds vs t ys hm)
      | non => simp at e
      | bl b => simp at e
      | int i => simp at e
      | str z hz => simp at e
      | fzl h1 t => simp at e
      | fn h1 => simp at e
      | ty n => simp at e
      | dct h1 hn k => simp at e
      | @dicK a ks ds kvs h1 hn hk t =>
        simp only at e
        cases hm : mapO (fz s ι.o.length k) ds with
        | none => rw [hm] at e; cases e
        | some ys =>
          rw [hm] at e; cases e
          exact .dicK h1 ⟨fun m => hn.1 (List.mem_append_left _ m), hn.2⟩ hk (go ds _ t ys hm)
      | @dicT a ks ds kvs h1 hn hk t =>
        simp only at e
        cases hm : mapO (fz s ι.o.length k) ds with
        | none => rw [hm] at e; cases e
        | some ys =>
          rw [hm] at e; cases e
          exact .dicT h1 ⟨fun m => hn.1 (List.mem_append_left _ m), hn.2⟩ hk (go ds _ t ys hm)
end

/-! ### judgements -/
def ExR (K : PySem.W.Frag) (mg : Str → Option Value) (H : Hp) (ι : Io) (c : EC) (cls : Value) (dx : Option Addr) : Prop :=
  mg c.cls = some cls ∧ match c.arg with
    | [] => dx = none
    | a :: _ => ∃ d f v, dx = some d ∧ H d = some (.xd [(f, v)]) ∧ Rep K mg H ι a v
section
variable (K : PySem.W.Frag) (mg : Str → Option Value) (W : WX) (ι : Io) (H : Hp) (σ : L2.St)
def PoE (r : R D) (Q : VK) : Prop := match r with
  | .ok d s => ∀ v H' ι', Adv ι H ι' H' → StR K mg H' ι' s → Rep K mg H' ι' d v → Q v H'
  | .exc c s => ∀ cls dx H' ι', Adv ι H ι' H' → StR K mg H' ι' s → ExR K mg H' ι' c cls dx → W cls dx σ H'
  | .no => False
def PoT (r : R Bool) (Q : Bool → Hp → Prop) : Prop := match r with
  | .ok b s => ∀ H' ι', Adv ι H ι' H' → StR K mg H' ι' s → Q b H'
  | .exc c s => ∀ cls dx H' ι', Adv ι H ι' H' → StR K mg H' ι' s → ExR K mg H' ι' c cls dx → W cls dx σ H'
  | .no => False
def PoA (r : R (List D)) (Q : List V → Hp → Prop) : Prop := match r with
  | .ok ds s => ∀ vs H' ι', Adv ι H ι' H' → StR K mg H' ι' s → Reps K mg H' ι' ds vs → Q vs H'
  | .exc c s => ∀ cls dx H' ι', Adv ι H ι' H' → StR K mg H' ι' s → ExR K mg H' ι' c cls dx → W cls dx σ H'
  | .no => False
end
def PoS (K : PySem.W.Frag) (mg : Str → Option Value) (W : WX) (ι : Io) (H : Hp) (r : F) (D : Ends) : Prop := match r with
  | .nx ρ s => ∀ σ' H' ι', Adv ι H ι' H' → StR K mg H' ι' s → EnvR K mg H' ι' ρ σ' → D.nx σ' H'
  | .bk ρ s => ∀ σ' H' ι', Adv ι H ι' H' → StR K mg H' ι' s → EnvR K mg H' ι' ρ σ' → D.bk σ' H'
  | .ct ρ s => ∀ σ' H' ι', Adv ι H ι' H' → StR K mg H' ι' s → EnvR K mg H' ι' ρ σ' → D.ct σ' H'
  | .rt d s => ∀ v H' ι', Adv ι H ι' H' → StR K mg H' ι' s → Rep K mg H' ι' d v → D.rt v H'
  | .exc c ρ s => ∀ cls dx σ' H' ι', Adv ι H ι' H' → StR K mg H' ι' s → EnvR K mg H' ι' ρ σ' → ExR K mg H' ι' c cls dx → W cls dx σ' H'
  | .no => False
section
variable (K : PySem.W.Frag) (mg : Str → Option Value) (W : WX)
def tD (f : Exp) : TE := fun σ H Q => ∃ ι ρ s, EnvR K mg H ι ρ σ ∧ StR K mg H ι s ∧ PoE K mg W ι H σ (f ρ s) Q
def tDT (f : Tst) : TT := fun σ H Q => ∃ ι ρ s, EnvR K mg H ι ρ σ ∧ StR K mg H ι s ∧ PoT K mg W ι H σ (f ρ s) Q
def tDA (f : Exps) : TA := fun σ H Q => ∃ ι ρ s, EnvR K mg H ι ρ σ ∧ StR K mg H ι s ∧ PoA K mg W ι H σ (f ρ s) Q
def tDS (f : Sm) : TS := fun D σ H => ∃ ι ρ s, EnvR K mg H ι ρ σ ∧ StR K mg H ι s ∧ PoS K mg W ι H (f ρ s) D
end
abbrev DE (X : Cx) (W : WX) (e : Expr) (f : Exp) : Prop := PE X e (tD X.K X.mg W f)
abbrev DT (X : Cx) (W : WX) (e : Expr) (f : Tst) : Prop := PT X e (tDT X.K X.mg W f)
abbrev DW (X : Cx) (W : WX) (e : Expr) (f : Tst) : Prop := PW X e (tDT X.K X.mg W f)
abbrev DA (X : Cx) (W : WX) (es : List Expr) (f : Exps) : Prop := PA X es (tDA X.K X.mg W f)
abbrev DS (X : Cx) (W : WX) (st : Stmt) (f : Sm) : Prop := PS X st (tDS X.K X.mg W f)
abbrev DSs (X : Cx) (W : WX) (st : List Stmt) (f : Sm) : Prop := PSs X st (tDS X.K X.mg W f)

theorem pe_imp {X : Cx} {e : Expr} {t t' : TE} (h : PE X e t) (i : ∀ σ H Q, t' σ H Q → t σ H Q) : PE X e t' := ⟨fun pins s σ H Q I hw => h.run pins s σ H Q I (i σ H Q hw)⟩
theorem pt_imp {X : Cx} {e : Expr} {t t' : TT} (h : PT X e t) (i : ∀ σ H Q, t' σ H Q → t σ H Q) : PT X e t' := ⟨fun pins s σ H Q I hw => h.run pins s σ H Q I (i σ H Q hw)⟩
theorem pw_imp {X : Cx} {e : Expr} {t t' : TT} (h : PW X e t) (i : ∀ σ H Q, t' σ H Q → t σ H Q) : PW X e t' := ⟨fun wh pins s σ H Q I hw => h.run wh pins s σ H Q I (i σ H Q hw)⟩
theorem pa_imp {X : Cx} {e : List Expr} {t t' : TA} (h : PA X e t) (i : ∀ σ H Q, t' σ H Q → t σ H Q) : PA X e t' := ⟨fun pos pins s σ H Q I hw => h.run pos pins s σ H Q I (i σ H Q hw)⟩
theorem ps_imp {X : Cx} {e : Stmt} {t t' : TS} (h : PS X e t) (i : ∀ D σ H, t' D σ H → t D σ H) : PS X e t' := ⟨fun pins s σ H D I hw => h.run pins s σ H D I (i D σ H hw)⟩
theorem pss_imp {X : Cx} {e : List Stmt} {t t' : TS} (h : PSs X e t) (i : ∀ D σ H, t' D σ H → t D σ H) : PSs X e t' := ⟨fun pins s σ H D I hw => h.run pins s σ H D I (i D σ H hw)⟩

section
variable {K : PySem.W.Frag} {mg : Str → Option Value} {W : WX} {ι ι1 : Io} {H H1 : Hp} {σ : L2.St}
theorem PoE.adv {r : R D} {Q : VK} (a : Adv ι H ι1 H1) (h : PoE K mg W ι H σ r Q) : PoE K mg W ι1 H1 σ r Q := by
  cases r with
  | ok d s => exact fun v H' ι' a' => h v H' ι' (a.trans a')
  | exc c s => exact fun cls dx H' ι' a' => h cls dx H' ι' (a.trans a')
  | no => exact h
theorem PoT.adv {r : R Bool} {Q : Bool → Hp → Prop} (a : Adv ι H ι1 H1) (h : PoT K mg W ι H σ r Q) : PoT K mg W ι1 H1 σ r Q := by
  cases r with
  | ok d s => exact fun H' ι' a' => h H' ι' (a.trans a')
  | exc c s => exact fun cls dx H' ι' a' => h cls dx H' ι' (a.trans a')
  | no => exact h
theorem PoA.adv {r : R (List D)} {Q : List V → Hp → Prop} (a : Adv ι H ι1 H1) (h : PoA K mg W ι H σ r Q) : PoA K mg W ι1 H1 σ r Q := by
  cases r with
  | ok d s => exact fun v H' ι' a' => h v H' ι' (a.trans a')
  | exc c s => exact fun cls dx H' ι' a' => h cls dx H' ι' (a.trans a')
  | no => exact h
theorem PoS.adv {r : F} {D : Ends} (a : Adv ι H ι1 H1) (h : PoS K mg W ι H r D) : PoS K mg W ι1 H1 r D := by
  cases r with
  | nx ρ s => exact fun σ' H' ι' a' => h σ' H' ι' (a.trans a')
  | bk ρ s => exact fun σ' H' ι' a' => h σ' H' ι' (a.trans a')
  | ct ρ s => exact fun σ' H' ι' a' => h σ' H' ι' (a.trans a')
  | rt d s => exact fun v H' ι' a' => h v H' ι' (a.trans a')
  | exc c ρ s => exact fun cls dx σ' H' ι' a' => h cls dx σ' H' ι' (a.trans a')
  | no => exact h
/-- the value comes; then k -/
theorem tD_bind {f : Exp} {ρ : Ev} {s : Sto} {α : Type} {k : D → Sto → R α} {P : Io → Hp → R α → Prop} (hadv : ∀ {ι1 H1 r}, Adv ι H ι1 H1 → P ι H r → P ι1 H1 r)
    (hexc : ∀ c s', P ι H (.exc c s') → ∀ cls dx H' ι', Adv ι H ι' H' → StR K mg H' ι' s' → ExR K mg H' ι' c cls dx → W cls dx σ H') (hno : ¬ P ι H .no)
    (er : EnvR K mg H ι ρ σ) (sr : StR K mg H ι s) (h : P ι H ((f ρ s).bind k)) :
    tD K mg W f σ H (fun x H1 => ∃ ι1 s1 d, Adv ι H ι1 H1 ∧ StR K mg H1 ι1 s1 ∧ Rep K mg H1 ι1 d x ∧ P ι1 H1 (k d s1)) := by
  refine ⟨ι, ρ, s, er, sr, ?_⟩
  cases e : f ρ s with
  | ok d s1 =>
    rw [e] at h
    exact fun v H' ι' a st r => ⟨ι', s1, d, a, st, r, hadv a h⟩
  | exc c s' =>
    rw [e] at h
    exact hexc c s' h
  | no =>
    rw [e] at h
    exact (hno h).elim
theorem tDT_bind {f : Tst} {ρ : Ev} {s : Sto} {α : Type} {k : Bool → Sto → R α} {P : Io → Hp → R α → Prop} (hadv : ∀ {ι1 H1 r}, Adv ι H ι1 H1 → P ι H r → P ι1 H1 r)
    (hexc : ∀ c s', P ι H (.exc c s') → ∀ cls dx H' ι', Adv ι H ι' H' → StR K mg H' ι' s' → ExR K mg H' ι' c cls dx → W cls dx σ H') (hno : ¬ P ι H .no)
    (er : EnvR K mg H ι ρ σ) (sr : StR K mg H ι s) (h : P ι H ((f ρ s).bind k)) :
    tDT K mg W f σ H (fun b H1 => ∃ ι1 s1, Adv ι H ι1 H1 ∧ StR K mg H1 ι1 s1 ∧ P ι1 H1 (k b s1)) := by
  refine ⟨ι, ρ, s, er, sr, ?_⟩
  cases e : f ρ s with
  | ok d s1 =>
    rw [e] at h
    exact fun H' ι' a st => ⟨ι', s1, a, st, hadv a h⟩
  | exc c s' =>
    rw [e] at h
    exact hexc c s' h
  | no =>
    rw [e] at h
    exact (hno h).elim
theorem tDA_bind {f : Exps} {ρ : Ev} {s : Sto} {α : Type} {k : List D → Sto → R α} {P : Io → Hp → R α → Prop} (hadv : ∀ {ι1 H1 r}, Adv ι H ι1 H1 → P ι H r → P ι1 H1 r)
    (hexc : ∀ c s', P ι H (.exc c s') → ∀ cls dx H' ι', Adv ι H ι' H' → StR K mg H' ι' s' → ExR K mg H' ι' c cls dx → W cls dx σ H') (hno : ¬ P ι H .no)
    (er : EnvR K mg H ι ρ σ) (sr : StR K mg H ι s) (h : P ι H ((f ρ s).bind k)) :
    tDA K mg W f σ H (fun xs H1 => ∃ ι1 s1 ds, Adv ι H ι1 H1 ∧ StR K mg H1 ι1 s1 ∧ Reps K mg H1 ι1 ds xs ∧ P ι1 H1 (k ds s1)) := by
  refine ⟨ι, ρ, s, er, sr, ?_⟩
  cases e : f ρ s with
  | ok d s1 =>
    rw [e] at h
    exact fun v H' ι' a st r => ⟨ι', s1, d, a, st, r, hadv a h⟩
  | exc c s' =>
    rw [e] at h
    exact hexc c s' h
  | no =>
    rw [e] at h
    exact (hno h).elim
/-- .. for an expression -/
theorem tD_bindE {f : Exp} {ρ : Ev} {s : Sto} {k : D → Sto → R D} {Q : VK} (er : EnvR K mg H ι ρ σ) (sr : StR K mg H ι s) (h : PoE K mg W ι H σ ((f ρ s).bind k) Q) :
    tD K mg W f σ H (fun x H1 => ∃ ι1 s1 d, Adv ι H ι1 H1 ∧ StR K mg H1 ι1 s1 ∧ Rep K mg H1 ι1 d x ∧ PoE K mg W ι1 H1 σ (k d s1) Q) :=
  tD_bind (P := fun ι H r => PoE K mg W ι H σ r Q) (fun a q => q.adv a) (fun _ _ q => q) (fun z => z) er sr h
theorem tDT_bindE {f : Tst} {ρ : Ev} {s : Sto} {k : Bool → Sto → R D} {Q : VK} (er : EnvR K mg H ι ρ σ) (sr : StR K mg H ι s) (h : PoE K mg W ι H σ ((f ρ s).bind k) Q) :
    tDT K mg W f σ H (fun b H1 => ∃ ι1 s1, Adv ι H ι1 H1 ∧ StR K mg H1 ι1 s1 ∧ PoE K mg W ι1 H1 σ (k b s1) Q) :=
  tDT_bind (P := fun ι H r => PoE K mg W ι H σ r Q) (fun a q => q.adv a) (fun _ _ q => q) (fun z => z) er sr h
theorem tDA_bindE {f : Exps} {ρ : Ev} {s : Sto} {k : List D → Sto → R D} {Q : VK} (er : EnvR K mg H ι ρ σ) (sr : StR K mg H ι s) (h : PoE K mg W ι H σ ((f ρ s).bind k) Q) :
    tDA K mg W f σ H (fun xs H1 => ∃ ι1 s1 ds, Adv ι H ι1 H1 ∧ StR K mg H1 ι1 s1 ∧ Reps K mg H1 ι1 ds xs ∧ PoE K mg W ι1 H1 σ (k ds s1) Q) :=
  tDA_bind (P := fun ι H r => PoE K mg W ι H σ r Q) (fun a q => q.adv a) (fun _ _ q => q) (fun z => z) er sr h
theorem tD_bindT {f : Exp} {ρ : Ev} {s : Sto} {k : D → Sto → R Bool} {Q : Bool → Hp → Prop} (er : EnvR K mg H ι ρ σ) (sr : StR K mg H ι s) (h : PoT K mg W ι H σ ((f ρ s).bind k) Q) :
    tD K mg W f σ H (fun x H1 => ∃ ι1 s1 d, Adv ι H ι1 H1 ∧ StR K mg H1 ι1 s1 ∧ Rep K mg H1 ι1 d x ∧ PoT K mg W ι1 H1 σ (k d s1) Q) :=
  tD_bind (P := fun ι H r => PoT K mg W ι H σ r Q) (fun a q => q.adv a) (fun _ _ q => q) (fun z => z) er sr h
theorem tDT_bindT {f : Tst} {ρ : Ev} {s : Sto} {k : Bool → Sto → R Bool} {Q : Bool → Hp → Prop} (er : EnvR K mg H ι ρ σ) (sr : StR K mg H ι s) (h : PoT K mg W ι H σ ((f ρ s).bind k) Q) :
    tDT K mg W f σ H (fun b H1 => ∃ ι1 s1, Adv ι H ι1 H1 ∧ StR K mg H1 ι1 s1 ∧ PoT K mg W ι1 H1 σ (k b s1) Q) :=
  tDT_bind (P := fun ι H r => PoT K mg W ι H σ r Q) (fun a q => q.adv a) (fun _ _ q => q) (fun z => z) er sr h
theorem tD_bindA {f : Exp} {ρ : Ev} {s : Sto} {k : D → Sto → R (List D)} {Q : List V → Hp → Prop} (er : EnvR K mg H ι ρ σ) (sr : StR K mg H ι s) (h : PoA K mg W ι H σ ((f ρ s).bind k) Q) :
    tD K mg W f σ H (fun x H1 => ∃ ι1 s1 d, Adv ι H ι1 H1 ∧ StR K mg H1 ι1 s1 ∧ Rep K mg H1 ι1 d x ∧ PoA K mg W ι1 H1 σ (k d s1) Q) :=
  tD_bind (P := fun ι H r => PoA K mg W ι H σ r Q) (fun a q => q.adv a) (fun _ _ q => q) (fun z => z) er sr h
theorem tDA_bindA {f : Exps} {ρ : Ev} {s : Sto} {k : List D → Sto → R (List D)} {Q : List V → Hp → Prop} (er : EnvR K mg H ι ρ σ) (sr : StR K mg H ι s) (h : PoA K mg W ι H σ ((f ρ s).bind k) Q) :
    tDA K mg W f σ H (fun xs H1 => ∃ ι1 s1 ds, Adv ι H ι1 H1 ∧ StR K mg H1 ι1 s1 ∧ Reps K mg H1 ι1 ds xs ∧ PoA K mg W ι1 H1 σ (k ds s1) Q) :=
  tDA_bind (P := fun ι H r => PoA K mg W ι H σ r Q) (fun a q => q.adv a) (fun _ _ q => q) (fun z => z) er sr h
end
/-- from a value to a statement's end -/
def R.toF {α : Type} (r : R α) (ρ : Ev) (k : α → Sto → F) : F := match r with
  | .ok a s => k a s
  | .exc c s => .exc c ρ s
  | .no => .no
@[simp] theorem R.toF_ok {α : Type} (a : α) (s : Sto) (ρ : Ev) (f : α → Sto → F) : (R.ok a s).toF ρ f = f a s := rfl
@[simp] theorem R.toF_exc {α : Type} (c : EC) (s : Sto) (ρ : Ev) (f : α → Sto → F) : (R.exc c s : R α).toF ρ f = .exc c ρ s := rfl
@[simp] theorem R.toF_no {α : Type} (ρ : Ev) (f : α → Sto → F) : (R.no : R α).toF ρ f = .no := rfl
section
variable {K : PySem.W.Frag} {mg : Str → Option Value} {W : WX} {ι ι1 : Io} {H H1 : Hp} {σ : L2.St}
theorem tD_toF {f : Exp} {ρ : Ev} {s : Sto} {k : D → Sto → F} {D : Ends} (er : EnvR K mg H ι ρ σ) (sr : StR K mg H ι s) (h : PoS K mg W ι H ((f ρ s).toF ρ k) D) :
    tD K mg W f σ H (fun x H1 => ∃ ι1 s1 d, Adv ι H ι1 H1 ∧ StR K mg H1 ι1 s1 ∧ Rep K mg H1 ι1 d x ∧ PoS K mg W ι1 H1 (k d s1) D) := by
  refine ⟨ι, ρ, s, er, sr, ?_⟩
  cases e : f ρ s with
  | ok d s1 =>
    rw [e] at h
    exact fun v H' ι' a st r => ⟨ι', s1, d, a, st, r, PoS.adv a h⟩
  | exc c s' =>
    rw [e] at h
    exact fun cls dx H' ι' a st x => h cls dx σ H' ι' a st (er.adv a sr.own) x
  | no =>
    rw [e] at h
    exact (h : False).elim
theorem tDT_toF {f : Tst} {ρ : Ev} {s : Sto} {k : Bool → Sto → F} {D : Ends} (er : EnvR K mg H ι ρ σ) (sr : StR K mg H ι s) (h : PoS K mg W ι H ((f ρ s).toF ρ k) D) :
    tDT K mg W f σ H (fun b H1 => ∃ ι1 s1, Adv ι H ι1 H1 ∧ StR K mg H1 ι1 s1 ∧ PoS K mg W ι1 H1 (k b s1) D) := by
  refine ⟨ι, ρ, s, er, sr, ?_⟩
  cases e : f ρ s with
  | ok d s1 =>
    rw [e] at h
    exact fun H' ι' a st => ⟨ι', s1, a, st, PoS.adv a h⟩
  | exc c s' =>
    rw [e] at h
    exact fun cls dx H' ι' a st x => h cls dx σ H' ι' a st (er.adv a sr.own) x
  | no =>
    rw [e] at h
    exact (h : False).elim
end
end Z

set_option Elab.async false
set_option linter.all false
set_option maxRecDepth 100000
set_option maxHeartbeats 2000000
namespace Z
open PySem PySem.Spec PyProof.Rows L2

/-! ### names, constants -/
def dVar (i : Nat) : Exp := fun ρ s => match ρ[i]? with
  | some (some d) => .ok d s
  | _ => .no
def dC (d : D) : Exp := fun _ s => .ok d s
section
variable {X : Cx} {W : WX} {pos : Pos}
theorem de_pure {e : Expr} {d : D} {v : V} (h : PE X e (tC v)) (r : ∀ H ι, Rep X.K X.mg H ι d v) : DE X W e (dC d) := pe_imp h fun σ H Q ⟨ι, ρ, s, er, sr, q⟩ => q v H ι (Adv.refl _ _) sr (r H ι)
theorem de_var (i : Nat) {x : Str} (hN : X.N[i]? = some x := by rfl) (hv : Vis X.env.scope x := by first | exact Or.inl rfl | exact Or.inr (Or.inl rfl) | exact Or.inr (Or.inr rfl)) (hd : (x == ("__debug__" : Str)) = false := by decide)
    (hcd : (x == ("__classdict__" : Str)) = false := by decide) : DE X W (.Name x pos) (dVar i) := by
  refine pe_imp (pe_var hN hv hd hcd) fun σ H Q ⟨ι, ρ, s, er, sr, q⟩ => ?_
  unfold dVar at q
  split at q
  · rename_i d e
    obtain ⟨v, e', r⟩ := er.get e
    exact ⟨v, e', q v H ι (Adv.refl _ _) sr r⟩
  · exact (q : False).elim
theorem de_int {i j pos} : DE X W (.Constant (.int i) j pos) (dC (.int i)) := de_pure pe_int fun _ _ => .int i
theorem de_bl {b j pos} : DE X W (.Constant (.bool b) j pos) (dC (.bl b)) := de_pure pe_bl fun _ _ => .bl b
theorem de_non {j pos} : DE X W (.Constant .none j pos) (dC .non) := de_pure pe_non fun _ _ => .non
theorem rep_str {K : PySem.W.Frag} {mg : Str → Option Value} {H : Hp} {ι : Io} {x : Str} {s : List Nat} (h : x.cps.toList = s) (hl : s.length ≤ 16777216) : Rep K mg H ι (.str s) (.str x) := by
  obtain ⟨c⟩ := x
  simp only at h
  subst h
  have : (⟨c⟩ : Str) = ⟨c.toList.toArray⟩ := by simp
  rw [this]
  exact .str _ hl
theorem de_str (s : List Nat) {x j pos} (h : x.cps.toList = s := by decide +kernel) (hl : s.length ≤ 16777216 := by decide) : DE X W (.Constant (.str x) j pos) (dC (.str s)) := de_pure pe_str fun _ _ => rep_str h hl
/-- a module's constant -/
theorem de_glob {x : Str} {d : D} {v : V} {u : Value} (hg : Gl X x) (hm : X.mg x = some u) (r : RelV v u) (rr : ∀ H ι, Rep X.K X.mg H ι d v) (hd : (x == ("__debug__" : Str)) = false := by decide) : DE X W (.Name x pos) (dC d) := de_pure (pe_glob hg hm r hd) rr
/-- a def of the module as a value -/
theorem de_fn {x : Str} {a : Addr} (hg : Gl X x) (hm : X.mg x = some (.ref a)) (hd : (x == ("__debug__" : Str)) = false := by decide) : DE X W (.Name x pos) (dC (.fn x)) := de_pure (pe_glob (v := .ref a) hg hm rfl hd) fun _ _ => .fn hm
end

/-! ### operations on values -/
abbrev Op := D → D → Sto → Option D
def rG (K : PySem.W.Frag) (mg : Str → Option Value) (g : Op) : R2 := fun x y H Q => ∃ ι s dx dy d, StR K mg H ι s ∧ Rep K mg H ι dx x ∧ Rep K mg H ι dy y ∧ g dx dy s = some d ∧ ∀ z H', Adv ι H ι H' → StR K mg H' ι s → Rep K mg H' ι d z → Q z H'
abbrev Op2 (X : Cx) (f : Value → Value → Sem Value) (g : Op) : Prop := OpR X f (rG X.K X.mg g)
def dOp (g : Op) (fa fb : Exp) : Exp := fun ρ s => (fa ρ s).bind fun x s1 => (fb ρ s1).bind fun y s2 => lift (g x y s2) s2
section
variable {K : PySem.W.Frag} {mg : Str → Option Value} {W : WX} {ι : Io} {H : Hp} {σ : L2.St}
/-- two values in a row, then an operation -/
theorem tOp_ok {g : Op} {fa fb : Exp} {Q : VK} (h : tD K mg W (dOp g fa fb) σ H Q) : tOp (rG K mg g) (tD K mg W fa) (tD K mg W fb) σ H Q := by
  obtain ⟨ι, ρ, s, er, sr, q⟩ := h
  obtain ⟨ι', ρ', s', er', sr', q'⟩ := tD_bindE er sr q
  refine ⟨ι', ρ', s', er', sr', ?_⟩
  cases e : fa ρ' s' with
  | no => rw [e] at q'; exact q'
  | exc c s1 => rw [e] at q'; exact q'
  | ok dx s1 =>
    rw [e] at q'
    intro x H1 ι1 a1 st1 r1
    obtain ⟨ι2, s2, d2, a2, st2, r2, q2⟩ := q' x H1 ι1 a1 st1 r1
    have ow2 := st2.own
    have er2 : EnvR K mg H1 ι2 ρ σ := er.adv a2 sr.own
    obtain ⟨ι3, ρ3, s3, er3, sr3, q3⟩ := tD_bindE er2 st2 q2
    refine ⟨ι3, ρ3, s3, er3, sr3, ?_⟩
    cases e3 : fb ρ3 s3 with
    | no => rw [e3] at q3; exact q3
    | exc c s4 => rw [e3] at q3; exact q3
    | ok dy s4 =>
      rw [e3] at q3
      intro y H4 ι4 a4 st4 r4
      obtain ⟨ι5, s5, d5, a5, st5, r5, q5⟩ := q3 y H4 ι4 a4 st4 r4
      cases e5 : g d2 d5 s5 with
      | none => rw [e5] at q5; exact (q5 : False).elim
      | some d =>
        rw [e5] at q5
        exact ⟨ι5, s5, d2, d5, d, st5, r2.adv a5 ow2, r5, e5, fun z H' a st r => q5 z H' ι5 a st r⟩
end
section
variable {X : Cx} {W : WX} {a b c : Expr} {fa fb fc : Exp} {pos : Pos}
theorem de_op {op : Operator} {g : Op} (ho : Op2 X (binaryOp op) g) (ha : DE X W a fa) (hb : DE X W b fb) : DE X W (.BinOp a op b pos) (dOp g fa fb) := pe_imp (pe_op ho ha hb) fun _ _ _ h => tOp_ok h
theorem de_cmp {op : CmpOp} {g : Op} (ho : Op2 X (compareOp op) g) (ha : DE X W a fa) (hb : DE X W b fb) (hm : behindInMarks op b = false := by first | exact nobehind _ (by decide) (by decide) | rfl) : DE X W (.Compare a [op] [b] pos) (dOp g fa fb) :=
  pe_imp (pe_cmpR ho ha hb hm) fun _ _ _ h => tOp_ok h
/-- the value of an expression as a test -/
def isB (d : D) (s : Sto) : R Bool := match d with
  | .bl b => .ok b s
  | _ => .no
def dTst (f : Exp) : Tst := fun ρ s => (f ρ s).bind isB
theorem tTest_ok {K : PySem.W.Frag} {mg : Str → Option Value} {W : WX} {f : Exp} {σ : L2.St} {H : Hp} {Q : Bool → Hp → Prop} (h : tDT K mg W (dTst f) σ H Q) : tD K mg W f σ H fun x H' => ∃ k, x = .bl k ∧ Q k H' := by
  obtain ⟨ι, ρ, s, er, sr, q⟩ := h
  refine ⟨ι, ρ, s, er, sr, ?_⟩
  unfold dTst at q
  cases e : f ρ s with
  | no => rw [e] at q; exact q
  | exc c s1 => rw [e] at q; exact q
  | ok d s1 =>
    rw [e] at q
    cases d with
    | bl k =>
      intro v H' ι' a st r
      cases r
      exact ⟨k, rfl, q H' ι' a st⟩
    | _ => exact (q : False).elim
theorem dt_cmp {op : CmpOp} {g : Op} (ho : Op2 X (compareOp op) g) (ha : DE X W a fa) (hb : DE X W b fb) (hm : behindInMarks op b = false := by first | exact nobehind _ (by decide) (by decide) | rfl) : DT X W (.Compare a [op] [b] pos) (dTst (dOp g fa fb)) := by
  refine pt_imp (pt_cmpR ho ha hb hm) fun σ H Q h => ?_
  obtain ⟨ι, ρ, s, er, sr, q⟩ := tTest_ok h
  exact tOp_ok ⟨ι, ρ, s, er, sr, q⟩
/-- a op1 b op2 c -/
def dChain (g g' : Op) (fa fb fc : Exp) : Exp := fun ρ s => (fa ρ s).bind fun x s1 => (fb ρ s1).bind fun y s2 => (lift (g x y s2) s2).bind fun z s3 => (isB z s3).bind fun k s3 => if k = true then (fc ρ s3).bind fun u s4 => lift (g' y u s4) s4 else .ok (.bl false) s3
theorem tChain_ok {K : PySem.W.Frag} {mg : Str → Option Value} {W : WX} {g g' : Op} {σ : L2.St} {H : Hp} {Q : VK} (h : tD K mg W (dChain g g' fa fb fc) σ H Q) : tChain (rG K mg g) (rG K mg g') (tD K mg W fa) (tD K mg W fb) (tD K mg W fc) σ H Q := by
  obtain ⟨ι, ρ, s, er, sr, q⟩ := h
  obtain ⟨ι', ρ', s', er', sr', q'⟩ := tD_bindE er sr q
  refine ⟨ι', ρ', s', er', sr', ?_⟩
  cases e : fa ρ' s' with
  | no => rw [e] at q'; exact q'
  | exc c s1 => rw [e] at q'; exact q'
  | ok dx s1 =>
    rw [e] at q'
    intro x H1 ι1 a1 st1 r1
    obtain ⟨ι2, s2, d2, a2, st2, r2, q2⟩ := q' x H1 ι1 a1 st1 r1
    have er2 : EnvR K mg H1 ι2 ρ σ := er.adv a2 sr.own
    obtain ⟨ι3, ρ3, s3, er3, sr3, q3⟩ := tD_bindE er2 st2 q2
    refine ⟨ι3, ρ3, s3, er3, sr3, ?_⟩
    cases e3 : fb ρ3 s3 with
    | no => rw [e3] at q3; exact q3
    | exc c s4 => rw [e3] at q3; exact q3
    | ok dy s4 =>
      rw [e3] at q3
      intro y H4 ι4 a4 st4 r4
      obtain ⟨ι5, s5, d5, a5, st5, r5, q5⟩ := q3 y H4 ι4 a4 st4 r4
      have er5 : EnvR K mg H4 ι5 ρ σ := er2.adv a5 st2.own
      cases e5 : g d2 d5 s5 with
      | none => rw [e5] at q5; exact (q5 : False).elim
      | some d =>
        rw [e5] at q5
        refine ⟨ι5, s5, d2, d5, d, st5, r2.adv a5 st2.own, r5, e5, fun z H' a st r => ?_⟩
        cases d with
        | bl k =>
          cases r
          refine ⟨k, rfl, ?_⟩
          have q6 := PoE.adv a q5
          cases k with
          | false =>
            rw [if_neg (by decide)]
            exact q6 _ _ _ (Adv.refl _ _) st (.bl false)
          | true =>
            rw [if_pos rfl]
            have er6 := er5.adv a st5.own
            obtain ⟨ι7, ρ7, s7, er7, sr7, q7⟩ := tD_bindE er6 st q6
            refine ⟨ι7, ρ7, s7, er7, sr7, ?_⟩
            cases e7 : fc ρ7 s7 with
            | no => rw [e7] at q7; exact q7
            | exc c s8 => rw [e7] at q7; exact q7
            | ok dz s8 =>
              rw [e7] at q7
              intro zz H8 ι8 a8 st8 r8
              obtain ⟨ι9, s9, d9, a9, st9, r9, q9⟩ := q7 zz H8 ι8 a8 st8 r8
              cases e9 : g' d5 d9 s9 with
              | none => rw [e9] at q9; exact (q9 : False).elim
              | some dd =>
                rw [e9] at q9
                exact ⟨ι9, s9, d5, d9, dd, st9, (r5.adv a st5.own).adv a9 st.own, r9, e9, fun z H' a st r => q9 z H' ι9 a st r⟩
        | _ => exact (q5 : False).elim
theorem de_chain {op op' : CmpOp} {g g' : Op} (ho : Op2 X (compareOp op) g) (ho' : Op2 X (compareOp op') g') (ha : DE X W a fa) (hb : DE X W b fb) (hc : DE X W c fc) (hm : lastMarks [op, op'] [b, c] = false := by with_unfolding_all rfl) :
    DE X W (.Compare a [op, op'] [b, c] pos) (dChain g g' fa fb fc) := pe_imp (pe_chain ho ho' ha hb hc hm) fun _ _ _ h => tChain_ok h
theorem dt_chain {op op' : CmpOp} {g g' : Op} (ho : Op2 X (compareOp op) g) (ho' : Op2 X (compareOp op') g') (ha : DE X W a fa) (hb : DE X W b fb) (hc : DE X W c fc) (hm : lastMarks [op, op'] [b, c] = false := by with_unfolding_all rfl) :
    DT X W (.Compare a [op, op'] [b, c] pos) (dTst (dChain g g' fa fb fc)) := by
  refine pt_imp (pt_chain ho ho' ha hb hc hm) fun σ H Q h => ?_
  obtain ⟨ι, ρ, s, er, sr, q⟩ := tTest_ok h
  exact tChain_ok ⟨ι, ρ, s, er, sr, q⟩
end

/-! ### and, or, not, if else -/
section
variable {X : Cx} {W : WX} {a b c : Expr} {fa fb : Exp} {ta tb tc : Tst} {rest : List Expr} {pos : Pos}
def tAndD (t u : Tst) : Tst := fun ρ s => (t ρ s).bind fun k s1 => if k = true then u ρ s1 else .ok false s1
def tOrD (t u : Tst) : Tst := fun ρ s => (t ρ s).bind fun k s1 => if k = true then .ok true s1 else u ρ s1
def tNotD (t : Tst) : Tst := fun ρ s => (t ρ s).bind fun k s1 => .ok (!k) s1
theorem dw_one_and (ha : DT X W a ta) : DW X W (.BoolOp .And [a] pos) ta := pw_and1 ha
theorem dw_one_or (ha : DT X W a ta) : DW X W (.BoolOp .Or [a] pos) ta := pw_or1 ha
theorem tDT_step {K : PySem.W.Frag} {mg : Str → Option Value} {W : WX} {f : Tst} {ρ : Ev} {s : Sto} {ι : Io} {H : Hp} {σ : L2.St} {k : Bool → Sto → R Bool} {Q : Bool → Hp → Prop} {R : Bool → Hp → Prop}
    (er : EnvR K mg H ι ρ σ) (sr : StR K mg H ι s) (h : PoT K mg W ι H σ ((f ρ s).bind k) Q)
    (go : ∀ b H1 ι1 s1, EnvR K mg H1 ι1 ρ σ → StR K mg H1 ι1 s1 → PoT K mg W ι1 H1 σ (k b s1) Q → R b H1) : tDT K mg W f σ H R := by
  refine ⟨ι, ρ, s, er, sr, ?_⟩
  cases e : f ρ s with
  | no => rw [e] at h; exact h
  | exc c s1 => rw [e] at h; exact h
  | ok b s1 =>
    rw [e] at h
    exact fun H1 ι1 a st => go b H1 ι1 s1 (er.adv a sr.own) st (PoT.adv a h)
theorem tDT_stepE {K : PySem.W.Frag} {mg : Str → Option Value} {W : WX} {f : Tst} {ρ : Ev} {s : Sto} {ι : Io} {H : Hp} {σ : L2.St} {k : Bool → Sto → R D} {Q : VK} {R : Bool → Hp → Prop}
    (er : EnvR K mg H ι ρ σ) (sr : StR K mg H ι s) (h : PoE K mg W ι H σ ((f ρ s).bind k) Q)
    (go : ∀ b H1 ι1 s1, EnvR K mg H1 ι1 ρ σ → StR K mg H1 ι1 s1 → PoE K mg W ι1 H1 σ (k b s1) Q → R b H1) : tDT K mg W f σ H R := by
  refine ⟨ι, ρ, s, er, sr, ?_⟩
  cases e : f ρ s with
  | no => rw [e] at h; exact h
  | exc c s1 => rw [e] at h; exact h
  | ok b s1 =>
    rw [e] at h
    exact fun H1 ι1 a st => go b H1 ι1 s1 (er.adv a sr.own) st (PoE.adv a h)
theorem tD_step {K : PySem.W.Frag} {mg : Str → Option Value} {W : WX} {f : Exp} {ρ : Ev} {s : Sto} {ι : Io} {H : Hp} {σ : L2.St} {k : D → Sto → R D} {Q : VK} {R : VK}
    (er : EnvR K mg H ι ρ σ) (sr : StR K mg H ι s) (h : PoE K mg W ι H σ ((f ρ s).bind k) Q)
    (go : ∀ v H1 ι1 s1 d, Adv ι H ι1 H1 → EnvR K mg H1 ι1 ρ σ → StR K mg H1 ι1 s1 → Rep K mg H1 ι1 d v → PoE K mg W ι1 H1 σ (k d s1) Q → R v H1) : tD K mg W f σ H R := by
  refine ⟨ι, ρ, s, er, sr, ?_⟩
  cases e : f ρ s with
  | no => rw [e] at h; exact h
  | exc c s1 => rw [e] at h; exact h
  | ok b s1 =>
    rw [e] at h
    exact fun v H1 ι1 a st r => go v H1 ι1 s1 b a (er.adv a sr.own) st r (PoE.adv a h)
theorem dw_and (ha : DT X W a ta) (hb : DW X W (.BoolOp .And (b :: rest) pos) tb) : DW X W (.BoolOp .And (a :: b :: rest) pos) (tAndD ta tb) := by
  refine pw_imp (pw_and ha hb) fun σ H Q ⟨ι, ρ, s, er, sr, q⟩ => tDT_step er sr q fun k H1 ι1 s1 er1 sr1 q1 => ?_
  cases k with
  | true => exact ⟨ι1, ρ, s1, er1, sr1, q1⟩
  | false => exact q1 H1 ι1 (Adv.refl _ _) sr1
theorem dw_or (ha : DT X W a ta) (hb : DW X W (.BoolOp .Or (b :: rest) pos) tb) : DW X W (.BoolOp .Or (a :: b :: rest) pos) (tOrD ta tb) := by
  refine pw_imp (pw_or ha hb) fun σ H Q ⟨ι, ρ, s, er, sr, q⟩ => tDT_step er sr q fun k H1 ι1 s1 er1 sr1 q1 => ?_
  cases k with
  | false => exact ⟨ι1, ρ, s1, er1, sr1, q1⟩
  | true => exact q1 H1 ι1 (Adv.refl _ _) sr1
theorem dt_bool (h : DW X W a ta) : DT X W a ta := h.pt
theorem dt_not (ha : DT X W a ta) : DT X W (.UnaryOp .Not a pos) (tNotD ta) := by
  refine pt_imp (pt_not ha) fun σ H Q ⟨ι, ρ, s, er, sr, q⟩ => tDT_step er sr q fun k H1 ι1 s1 er1 sr1 q1 => ?_
  exact q1 H1 ι1 (Adv.refl _ _) sr1
/-- an expression whose value is a bool, as a test -/
theorem dt_val (h : DE X W a fa) (he : ∀ whole, isTrue a X.env whole = (do let v ← whole; standAt a.pos; holding [v] (truthy v)) := by intro _; rfl) : DT X W a (dTst fa) := pt_imp (pt_val h he) fun σ H Q q => tTest_ok q
/-- .. as values: bools alone -/
def dAnd (fa fb : Exp) : Exp := fun ρ s => (dTst fa ρ s).bind fun k s1 => if k = true then fb ρ s1 else .ok (.bl false) s1
def dOr (fa fb : Exp) : Exp := fun ρ s => (dTst fa ρ s).bind fun k s1 => if k = true then .ok (.bl true) s1 else fb ρ s1
def dNot (fa : Exp) : Exp := fun ρ s => (dTst fa ρ s).bind fun k s1 => .ok (.bl (!k)) s1
theorem tTest_step {K : PySem.W.Frag} {mg : Str → Option Value} {W : WX} {f : Exp} {ρ : Ev} {s : Sto} {ι : Io} {H : Hp} {σ : L2.St} {k : Bool → Sto → R D} {Q : VK} {R : VK}
    (er : EnvR K mg H ι ρ σ) (sr : StR K mg H ι s) (h : PoE K mg W ι H σ ((dTst f ρ s).bind k) Q)
    (go : ∀ b H1 ι1 s1, EnvR K mg H1 ι1 ρ σ → StR K mg H1 ι1 s1 → PoE K mg W ι1 H1 σ (k b s1) Q → R (.bl b) H1) : tD K mg W f σ H R := by
  obtain ⟨ι', ρ', s', er', sr', q'⟩ := tTest_ok (tDT_stepE (R := fun b H1 => R (.bl b) H1) er sr h go)
  refine ⟨ι', ρ', s', er', sr', ?_⟩
  cases e : f ρ' s' with
  | no => rw [e] at q'; exact q'
  | exc c s1 => rw [e] at q'; exact q'
  | ok b s1 =>
    rw [e] at q'
    exact fun v H1 ι1 a st r => by
      obtain ⟨k, rfl, z⟩ := q' v H1 ι1 a st r
      exact z
theorem de_one {op} (h : DE X W a fa) : DE X W (.BoolOp op [a] pos) fa := pe_one h
theorem de_and (ha : DE X W a fa) (hb : DE X W (.BoolOp .And (b :: rest) pos) fb) : DE X W (.BoolOp .And (a :: b :: rest) pos) (dAnd fa fb) := by
  refine pe_imp (pe_and ha hb) fun σ H Q ⟨ι, ρ, s, er, sr, q⟩ => tTest_step er sr q fun k H1 ι1 s1 er1 sr1 q1 => ⟨k, rfl, ?_⟩
  cases k with
  | true => exact ⟨ι1, ρ, s1, er1, sr1, q1⟩
  | false => exact q1 _ H1 ι1 (Adv.refl _ _) sr1 (.bl false)
theorem de_or (ha : DE X W a fa) (hb : DE X W (.BoolOp .Or (b :: rest) pos) fb) : DE X W (.BoolOp .Or (a :: b :: rest) pos) (dOr fa fb) := by
  refine pe_imp (pe_or ha hb) fun σ H Q ⟨ι, ρ, s, er, sr, q⟩ => tTest_step er sr q fun k H1 ι1 s1 er1 sr1 q1 => ⟨k, rfl, ?_⟩
  cases k with
  | false => exact ⟨ι1, ρ, s1, er1, sr1, q1⟩
  | true => exact q1 _ H1 ι1 (Adv.refl _ _) sr1 (.bl true)
theorem de_not (ha : DE X W a fa) : DE X W (.UnaryOp .Not a pos) (dNot fa) := by
  refine pe_imp (pe_not ha) fun σ H Q ⟨ι, ρ, s, er, sr, q⟩ => tTest_step er sr q fun k H1 ι1 s1 er1 sr1 q1 => ⟨k, rfl, ?_⟩
  exact q1 _ H1 ι1 (Adv.refl _ _) sr1 (.bl _)
def dIf (t : Tst) (fa fb : Exp) : Exp := fun ρ s => (t ρ s).bind fun k s1 => if k = true then fa ρ s1 else fb ρ s1
theorem de_if (hc : DT X W c tc) (ha : DE X W a fa) (hb : DE X W b fb) : DE X W (.IfExp c a b pos) (dIf tc fa fb) := by
  refine pe_imp (pe_ifExp hc ha hb) fun σ H Q ⟨ι, ρ, s, er, sr, q⟩ => tDT_stepE er sr q fun k H1 ι1 s1 er1 sr1 q1 => ?_
  cases k with
  | true => exact ⟨ι1, ρ, s1, er1, sr1, q1⟩
  | false => exact ⟨ι1, ρ, s1, er1, sr1, q1⟩
end

/-! ### argument lists, tuples, lists -/
def aNil : Exps := fun _ s => .ok [] s
def aCons (f : Exp) (g : Exps) : Exps := fun ρ s => (f ρ s).bind fun x s1 => (g ρ s1).bind fun xs s2 => .ok (x :: xs) s2
section
variable {X : Cx} {W : WX} {e : Expr} {es : List Expr} {f : Exp} {g : Exps} {pos : Pos}
theorem da_nil : DA X W [] aNil := pa_imp pa_nil fun σ H Q ⟨ι, ρ, s, er, sr, q⟩ => q [] H ι (Adv.refl _ _) sr .nil
theorem da_cons (h : DE X W e f) (hr : DA X W es g) (hs : starEach (e :: es) X.env = (false, eval e X.env) :: starEach es X.env := by rfl) : DA X W (e :: es) (aCons f g) := by
  refine pa_imp (pa_cons h hr hs) fun σ H Q ⟨ι, ρ, s, er, sr, q⟩ => ?_
  obtain ⟨ι', ρ', s', er', sr', q'⟩ := tD_bindA er sr q
  refine ⟨ι', ρ', s', er', sr', ?_⟩
  cases e1 : f ρ' s' with
  | no => rw [e1] at q'; exact q'
  | exc c s1 => rw [e1] at q'; exact q'
  | ok d s1 =>
    rw [e1] at q'
    intro v H1 ι1 a1 st1 r1
    obtain ⟨ι2, s2, d2, a2, st2, r2, q2⟩ := q' v H1 ι1 a1 st1 r1
    have er2 : EnvR X.K X.mg H1 ι2 ρ σ := er.adv a2 sr.own
    obtain ⟨ι3, ρ3, s3, er3, sr3, q3⟩ := tDA_bindA er2 st2 q2
    refine ⟨ι3, ρ3, s3, er3, sr3, ?_⟩
    cases e3 : g ρ3 s3 with
    | no => rw [e3] at q3; exact q3
    | exc c s4 => rw [e3] at q3; exact q3
    | ok ds s4 =>
      rw [e3] at q3
      intro vs H4 ι4 a4 st4 r4
      obtain ⟨ι5, s5, d5, a5, st5, r5, q5⟩ := q3 vs H4 ι4 a4 st4 r4
      exact q5 _ _ _ (Adv.refl _ _) st5 (.cons (r2.adv a5 st2.own) r5)
def dTup (g : Exps) : Exp := fun ρ s => (g ρ s).bind fun ds s1 => if ds.length ≤ 16777216 then .ok (.tup ds) s1 else .no
def dLst (g : Exps) : Exp := fun ρ s => (g ρ s).bind fun ds s1 => if ds.length ≤ 16777216 then .ok (.lst ds) s1 else .no
/-- a new object of ours -/
def dNew (g : Exps) : Exp := fun ρ s => (g ρ s).bind fun ds s1 => if ds.length ≤ 16777216 then .ok (.obj s1.length) (s1 ++ [.lst ds]) else .no
theorem tDA_step {K : PySem.W.Frag} {mg : Str → Option Value} {W : WX} {f : Exps} {ρ : Ev} {s : Sto} {ι : Io} {H : Hp} {σ : L2.St} {k : List D → Sto → R D} {Q : VK} {R : List V → Hp → Prop}
    (er : EnvR K mg H ι ρ σ) (sr : StR K mg H ι s) (h : PoE K mg W ι H σ ((f ρ s).bind k) Q)
    (go : ∀ vs H1 ι1 s1 ds, EnvR K mg H1 ι1 ρ σ → StR K mg H1 ι1 s1 → Reps K mg H1 ι1 ds vs → PoE K mg W ι1 H1 σ (k ds s1) Q → R vs H1) : tDA K mg W f σ H R := by
  refine ⟨ι, ρ, s, er, sr, ?_⟩
  cases e : f ρ s with
  | no => rw [e] at h; exact h
  | exc c s1 => rw [e] at h; exact h
  | ok b s1 =>
    rw [e] at h
    exact fun v H1 ι1 a st r => go v H1 ι1 s1 b (er.adv a sr.own) st r (PoE.adv a h)
theorem sizeL : sizeLine = 16777216 := by decide
theorem de_tup {x1} (h : DA X W es g) : DE X W (.Tuple es x1 pos) (dTup g) := by
  refine pe_imp (pe_tup h) fun σ H Q ⟨ι, ρ, s, er, sr, q⟩ => tDA_step er sr q fun vs H1 ι1 s1 ds er1 sr1 r1 q1 => ?_
  split at q1
  · rename_i hl
    refine ⟨by rw [sizeL, ← r1.length]; exact hl, fun p hp => ?_⟩
    have a := adv_upd (o := .tup vs) ι1 hp
    exact q1 _ _ ι1 a (sr1.upd hp) (.tup (SqT.of upd_same) (r1.adv a sr1.own))
  · exact (q1 : False).elim
theorem de_lst (h : DA X W es g) : DE X W (.List es pos) (dLst g) := by
  refine pe_imp (pe_lst h) fun σ H Q ⟨ι, ρ, s, er, sr, q⟩ => tDA_step er sr q fun vs H1 ι1 s1 ds er1 sr1 r1 q1 => ?_
  split at q1
  · rename_i hl
    refine ⟨by rw [sizeL, ← r1.length]; exact hl, fun p hp => ?_⟩
    have a := adv_upd (o := .lst vs) ι1 hp
    exact q1 _ _ ι1 a (sr1.upd hp) (.lst upd_same (sr1.own.fresh hp) (r1.adv a sr1.own))
  · exact (q1 : False).elim
theorem de_new (h : DA X W es g) : DE X W (.List es pos) (dNew g) := by
  refine pe_imp (pe_lst h) fun σ H Q ⟨ι, ρ, s, er, sr, q⟩ => tDA_step er sr q fun vs H1 ι1 s1 ds er1 sr1 r1 q1 => ?_
  split at q1
  · rename_i hl
    refine ⟨by rw [sizeL, ← r1.length]; exact hl, fun p hp => ?_⟩
    obtain ⟨st, a⟩ := sr1.alloc hp r1
    exact q1 _ _ _ a st (.obj (by rw [← sr1.len]; simp))
  · exact (q1 : False).elim
end
end Z

set_option Elab.async false
set_option linter.all false
set_option maxRecDepth 100000
set_option maxHeartbeats 2000000
namespace Z
open PySem PySem.Spec PyProof.Rows L2

/-! ### blocks -/
def sNil : Sm := fun ρ s => .nx ρ s
def F.seq (r : F) (k : Ev → Sto → F) : F := match r with
  | .nx ρ s => k ρ s
  | r => r
@[simp] theorem F.seq_nx (ρ : Ev) (s : Sto) (k : Ev → Sto → F) : (F.nx ρ s).seq k = k ρ s := rfl
@[simp] theorem F.seq_rt (d : D) (s : Sto) (k : Ev → Sto → F) : (F.rt d s).seq k = .rt d s := rfl
@[simp] theorem F.seq_bk (ρ : Ev) (s : Sto) (k : Ev → Sto → F) : (F.bk ρ s).seq k = .bk ρ s := rfl
@[simp] theorem F.seq_ct (ρ : Ev) (s : Sto) (k : Ev → Sto → F) : (F.ct ρ s).seq k = .ct ρ s := rfl
@[simp] theorem F.seq_exc (c : EC) (ρ : Ev) (s : Sto) (k : Ev → Sto → F) : (F.exc c ρ s).seq k = .exc c ρ s := rfl
@[simp] theorem F.seq_no (k : Ev → Sto → F) : F.no.seq k = .no := rfl
def sSeq (f g : Sm) : Sm := fun ρ s => (f ρ s).seq g
section
variable {K : PySem.W.Frag} {mg : Str → Option Value} {W : WX} {ι : Io} {H : Hp} {σ : L2.St}
/-- what one has of a statement's reading: it may be used with another end -/
theorem tDS_step {f : Sm} {ρ : Ev} {s : Sto} {g : Sm} {E E' : Ends} (er : EnvR K mg H ι ρ σ) (sr : StR K mg H ι s) (h : PoS K mg W ι H ((f ρ s).seq g) E)
    (nx : ∀ ρ' σ' H' ι' s', Adv ι H ι' H' → EnvR K mg H' ι' ρ' σ' → StR K mg H' ι' s' → PoS K mg W ι' H' (g ρ' s') E → E'.nx σ' H')
    (rt : E'.rt = E.rt) (bk : E'.bk = E.bk) (ct : E'.ct = E.ct) : tDS K mg W f E' σ H := by
  refine ⟨ι, ρ, s, er, sr, ?_⟩
  cases e : f ρ s with
  | nx ρ' s' =>
    rw [e] at h
    exact fun σ' H' ι' a st er' => nx ρ' σ' H' ι' s' a er' st (PoS.adv a h)
  | rt d s' =>
    rw [e] at h
    exact fun v H' ι' a st r => by rw [rt]; exact h v H' ι' a st r
  | bk ρ' s' =>
    rw [e] at h
    exact fun σ' H' ι' a st r => by rw [bk]; exact h σ' H' ι' a st r
  | ct ρ' s' =>
    rw [e] at h
    exact fun σ' H' ι' a st r => by rw [ct]; exact h σ' H' ι' a st r
  | exc c ρ' s' => rw [e] at h; exact h
  | no => rw [e] at h; exact h
end
section
variable {X : Cx} {W : WX} {st : Stmt} {rest : List Stmt} {f g : Sm} {e : Expr} {fe : Exp} {pos : Pos}
theorem dss_nil : DSs X W [] sNil := pss_imp pss_nil fun D σ H ⟨ι, ρ, s, er, sr, q⟩ => q σ H ι (Adv.refl _ _) sr er
theorem dss_cons (h1 : DS X W st f) (h2 : DSs X W rest g) : DSs X W (st :: rest) (sSeq f g) := by
  refine pss_imp (pss_cons h1 h2) fun D σ H ⟨ι, ρ, s, er, sr, q⟩ => ?_
  exact tDS_step er sr q (fun ρ' σ' H' ι' s' _ er' sr' q' => ⟨ι', ρ', s', er', sr', q'⟩) rfl rfl rfl
theorem dss_one (h1 : DS X W st f) : DSs X W [st] f := pss_one h1
theorem ds_pass : DS X W (.Pass pos) sNil := ps_imp ps_pass fun D σ H ⟨ι, ρ, s, er, sr, q⟩ => q σ H ι (Adv.refl _ _) sr er
def sBrk : Sm := fun ρ s => .bk ρ s
def sCnt : Sm := fun ρ s => .ct ρ s
theorem ds_break : DS X W (.Break pos) sBrk := ps_imp ps_break fun D σ H ⟨ι, ρ, s, er, sr, q⟩ => q σ H ι (Adv.refl _ _) sr er
theorem ds_continue : DS X W (.Continue pos) sCnt := ps_imp ps_continue fun D σ H ⟨ι, ρ, s, er, sr, q⟩ => q σ H ι (Adv.refl _ _) sr er
def sNo : Sm := fun _ _ => .no
/-- code that is never come to -/
theorem ds_never : DS X W st sNo := ⟨fun _ _ _ _ _ _ ⟨_, _, _, _, _, q⟩ => (q : False).elim⟩
theorem dss_never {sts : List Stmt} : DSs X W sts sNo := ⟨fun _ _ _ _ _ _ ⟨_, _, _, _, _, q⟩ => (q : False).elim⟩
def sRet (fe : Exp) : Sm := fun ρ s => (fe ρ s).toF ρ fun d s1 => .rt d s1
theorem tD_toF' {K : PySem.W.Frag} {mg : Str → Option Value} {ι : Io} {H : Hp} {σ : L2.St} {ρ : Ev} {s : Sto} {k : D → Sto → F} {D' : Ends} {R : VK} (er : EnvR K mg H ι ρ σ) (sr : StR K mg H ι s) (h : PoS K mg W ι H ((fe ρ s).toF ρ k) D')
    (go : ∀ v H1 ι1 s1 d, EnvR K mg H1 ι1 ρ σ → StR K mg H1 ι1 s1 → Rep K mg H1 ι1 d v → PoS K mg W ι1 H1 (k d s1) D' → R v H1) : tD K mg W fe σ H R := by
  refine ⟨ι, ρ, s, er, sr, ?_⟩
  cases e : fe ρ s with
  | no => rw [e] at h; exact h
  | exc c s' =>
    rw [e] at h
    exact fun cls dx H' ι' a st x => h cls dx σ H' ι' a st (er.adv a sr.own) x
  | ok d s1 =>
    rw [e] at h
    exact fun v H1 ι1 a st r => go v H1 ι1 s1 d (er.adv a sr.own) st r (PoS.adv a h)
theorem tDT_toF' {K : PySem.W.Frag} {mg : Str → Option Value} {ι : Io} {H : Hp} {σ : L2.St} {ρ : Ev} {s : Sto} {t : Tst} {k : Bool → Sto → F} {D' : Ends} {R : Bool → Hp → Prop} (er : EnvR K mg H ι ρ σ) (sr : StR K mg H ι s) (h : PoS K mg W ι H ((t ρ s).toF ρ k) D')
    (go : ∀ b H1 ι1 s1, EnvR K mg H1 ι1 ρ σ → StR K mg H1 ι1 s1 → Adv ι H ι1 H1 → PoS K mg W ι1 H1 (k b s1) D' → R b H1) : tDT K mg W t σ H R := by
  refine ⟨ι, ρ, s, er, sr, ?_⟩
  cases e : t ρ s with
  | no => rw [e] at h; exact h
  | exc c s' =>
    rw [e] at h
    exact fun cls dx H' ι' a st x => h cls dx σ H' ι' a st (er.adv a sr.own) x
  | ok d s1 =>
    rw [e] at h
    exact fun H1 ι1 a st => go d H1 ι1 s1 (er.adv a sr.own) st a (PoS.adv a h)
theorem ds_ret (h : DE X W e fe) : DS X W (.Return (some e) pos) (sRet fe) := ps_imp (ps_ret h) fun D σ H ⟨ι, ρ, s, er, sr, q⟩ =>
  tD_toF' er sr q fun v H1 ι1 s1 d er1 sr1 r q1 => q1 v H1 ι1 (Adv.refl _ _) sr1 r
def sRetN : Sm := fun _ s => .rt .non s
theorem ds_retN : DS X W (.Return none pos) sRetN := ps_imp ps_retN fun D σ H ⟨ι, ρ, s, er, sr, q⟩ => q .non H ι (Adv.refl _ _) sr .non
def sExp (fe : Exp) : Sm := fun ρ s => (fe ρ s).toF ρ fun _ s1 => .nx ρ s1
theorem ds_expr (h : DE X W e fe) (hs : swapsWith e none pos.line X.env = pure false := by rfl) : DS X W (.Expr e pos) (sExp fe) := ps_imp (ps_expr h hs) fun D σ H ⟨ι, ρ, s, er, sr, q⟩ =>
  tD_toF' er sr q fun v H1 ι1 s1 d er1 sr1 r q1 => q1 σ H1 ι1 (Adv.refl _ _) sr1 er1
theorem ds_doc {x j pos pos'} : DS X W (.Expr (.Constant (.str x) j pos) pos') sNil := ps_imp ps_doc fun D σ H ⟨ι, ρ, s, er, sr, q⟩ => q σ H ι (Adv.refl _ _) sr er
def sIf (t : Tst) (f g : Sm) : Sm := fun ρ s => (t ρ s).toF ρ fun b s1 => if b = true then f ρ s1 else g ρ s1
theorem ds_if {c : Expr} {a b : List Stmt} {t : Tst} (hc : DT X W c t) (ha : DSs X W a f) (hb : DSs X W b g) : DS X W (.If c a b pos) (sIf t f g) :=
  ps_imp (ps_if hc ha hb) fun D σ H ⟨ι, ρ, s, er, sr, q⟩ => tDT_toF' er sr q fun k H1 ι1 s1 er1 sr1 _ q1 => by
    cases k with
    | true => exact ⟨ι1, ρ, s1, er1, sr1, q1⟩
    | false => exact ⟨ι1, ρ, s1, er1, sr1, q1⟩

/-! ### targets -/
/-- a target takes a value: slots, or the store; none: it does not fit -/
abbrev Tg := D → Ev → Sto → Option (Ev × Sto)
def tgT (K : PySem.W.Frag) (mg : Str → Option Value) (t : Tg) : TG := fun v σ H Q => ∃ ι ρ s d ρ' s', EnvR K mg H ι ρ σ ∧ StR K mg H ι s ∧ Rep K mg H ι d v ∧ t d ρ s = some (ρ', s') ∧ ∀ σ' H' ι', Adv ι H ι' H' → EnvR K mg H' ι' ρ' σ' → StR K mg H' ι' s' → Q σ' H'
abbrev DG (X : Cx) (tg : Expr) (t : Tg) : Prop := PG X tg (tgT X.K X.mg t)
theorem pg_imp {tg : Expr} {t t' : TG} (h : PG X tg t) (i : ∀ v σ H Q, t' v σ H Q → t v σ H Q) : PG X tg t' := ⟨fun pins s σ H v u Q I r hw => h.run pins s σ H v u Q I r (i v σ H Q hw)⟩
def gN (i : Nat) : Tg := fun d ρ s => some (ρ.set i (some d), s)
theorem dg_name (i : Nat) {x : Str} (hN : X.N.Nodup) (hi : X.N[i]? = some x := by rfl) (hx : Loc X.env.scope x := by first | exact Or.inl rfl | exact Or.inr rfl) (hf : X.fn x = true ∨ X.env.scope.names.lookup x = some .local := by first | exact .inl rfl | exact .inr rfl) : DG X (.Name x pos) (gN i) :=
  pg_imp (pg_name hN hi hx hf) fun v σ H Q ⟨ι, ρ, s, d, ρ', s', er, sr, r, e, q⟩ => by
    cases e
    exact q _ H ι (Adv.refl _ _) (er.set i r) sr
/-- several targets -/
abbrev Tgs := List D → Ev → Sto → Option (Ev × Sto)
def tgTs (K : PySem.W.Frag) (mg : Str → Option Value) (t : Tgs) : TGs := fun vs σ H Q => ∃ ι ρ s ds ρ' s', EnvR K mg H ι ρ σ ∧ StR K mg H ι s ∧ Reps K mg H ι ds vs ∧ t ds ρ s = some (ρ', s') ∧ ∀ σ' H' ι', Adv ι H ι' H' → EnvR K mg H' ι' ρ' σ' → StR K mg H' ι' s' → Q σ' H'
abbrev DGs (X : Cx) (ts : List Expr) (t : Tgs) : Prop := PGs X ts (tgTs X.K X.mg t)
theorem pgs_imp {ts : List Expr} {t t' : TGs} (h : PGs X ts t) (i : ∀ v σ H Q, t' v σ H Q → t v σ H Q) : PGs X ts t' := ⟨fun pins s σ H v u Q I r hw => h.run pins s σ H v u Q I r (i v σ H Q hw)⟩
def gsNil : Tgs := fun ds ρ s => if ds.isEmpty then some (ρ, s) else none
def gsCons (t : Tg) (u : Tgs) : Tgs := fun ds ρ s => match ds with
  | d :: r => match t d ρ s with
    | some (ρ', s') => u r ρ' s'
    | none => none
  | [] => none
theorem dgs_nil : DGs X [] gsNil := pgs_imp pgs_nil fun vs σ H Q ⟨ι, ρ, s, ds, ρ', s', er, sr, r, e, q⟩ => by
  unfold gsNil at e
  cases r with
  | nil => cases e; exact ⟨rfl, q σ H ι (Adv.refl _ _) er sr⟩
  | cons _ _ => cases e
theorem dgs_cons {e : Expr} {es : List Expr} {t : Tg} {u : Tgs} (h1 : DG X e t) (h2 : DGs X es u) (hs : (assignEach (e :: es) X.env).map (·.2) = assign e X.env :: (assignEach es X.env).map (·.2) := by rfl) : DGs X (e :: es) (gsCons t u) :=
  pgs_imp (pgs_cons h1 h2 hs) fun vs σ H Q ⟨ι, ρ, s, ds, ρ', s', er, sr, r, e, q⟩ => by
    unfold gsCons at e
    cases r with
    | nil => cases e
    | @cons d ds v vs r rr =>
      simp only at e
      cases e1 : t d ρ s with
      | none => rw [e1] at e; cases e
      | some p =>
        obtain ⟨ρ1, s1⟩ := p
        rw [e1] at e
        refine ⟨v, vs, rfl, ι, ρ, s, d, ρ1, s1, er, sr, r, e1, fun σ1 H1 ι1 a1 er1 sr1 => ?_⟩
        refine ⟨ι1, ρ1, s1, ds, ρ', s', er1, sr1, rr.adv a1 sr.own, e, fun σ2 H2 ι2 a2 er2 sr2 => q σ2 H2 ι2 (a1.trans a2) er2 sr2⟩
def gTupD (n : Nat) (t : Tgs) : Tg := fun d ρ s => match d with
  | .tup ds => if ds.length = n then t ds ρ s else none
  | _ => none
theorem dg_tup {es : List Expr} {k : Nat} {t : Tgs} {n : Nat} (hc : X.calm = true) (h : DGs X es t) (hn : (assignEach es X.env).length = n := by rfl) (hst : (assignEach es X.env).findIdx? (·.1) = none := by rfl) : DG X (.Tuple es k pos) (gTupD n t) :=
  pg_imp (pg_tup hc h hn hst) fun v σ H Q ⟨ι, ρ, s, d, ρ', s', er, sr, r, e, q⟩ => by
    unfold gTupD at e
    cases r with
    | @tup a vs ds hq rr =>
      simp only at e
      split at e
      · rename_i hl
        exact ⟨a, vs, rfl, hq, by rw [← rr.length]; exact hl, ι, ρ, s, ds, ρ', s', er, sr, rr, e, q⟩
      · cases e
    | _ => simp at e
/-- target = value -/
def sAsg (fe : Exp) (t : Tg) : Sm := fun ρ s => (fe ρ s).toF ρ fun d s1 => match t d ρ s1 with
  | some (ρ', s') => .nx ρ' s'
  | none => .no
theorem asg_ok {K : PySem.W.Frag} {mg : Str → Option Value} {t : Tg} {D' : Ends} {σ : L2.St} {H : Hp} (h : tDS K mg W (sAsg fe t) D' σ H) : tAsg (tD K mg W fe) (tgT K mg t) D' σ H := by
  obtain ⟨ι, ρ, s, er, sr, q⟩ := h
  refine tD_toF' er sr q fun v H1 ι1 s1 d er1 sr1 r q1 => ?_
  cases e : t d ρ s1 with
  | none => rw [e] at q1; exact (q1 : False).elim
  | some p =>
    obtain ⟨ρ', s'⟩ := p
    rw [e] at q1
    exact ⟨ι1, ρ, s1, d, ρ', s', er1, sr1, r, e, fun σ' H' ι' a er' sr' => q1 σ' H' ι' a sr' er'⟩
theorem ds_asg {tg : Expr} {t : Tg} (he : DE X W e fe) (hg : DG X tg t) (hs : swapsWithSole [tg] e pos.line X.env = pure false := by rfl) (hw : swappedStores [tg] e X.env = pure none := by rfl)
    (h1 : (assignEach [tg] X.env).map (·.2) = [assign tg X.env] := by rfl) : DS X W (.Assign [tg] e pos) (sAsg fe t) := ps_imp (ps_asg he hg hs hw h1) fun _ _ _ h => asg_ok h
theorem ds_set (i : Nat) {x : Str} {pos' : Pos} (hN : X.N.Nodup) (he : DE X W e fe) (hi : X.N[i]? = some x := by rfl) (hx : Loc X.env.scope x := by first | exact Or.inl rfl | exact Or.inr rfl) (hs : swapsWith e (some (.Name x pos')) pos.line X.env = pure false := by rfl)
    (hf : X.fn x = true ∨ X.env.scope.names.lookup x = some .local := by first | exact .inl rfl | exact .inr rfl) : DS X W (.Assign [.Name x pos'] e pos) (sAsg fe (gN i)) :=
  ps_imp (ps_set hN hi hx he hs hf) fun D σ H ⟨ι, ρ, s, er, sr, q⟩ => tD_toF' er sr q fun v H1 ι1 s1 d er1 sr1 r q1 => q1 _ H1 ι1 (Adv.refl _ _) sr1 (er1.set i r)
/-- a, b = x, y -/
def sPar (i j : Nat) (fa : Exps) : Sm := fun ρ s => match fa ρ s with
  | .ok [d, e] s1 => .nx ((ρ.set i (some d)).set j (some e)) s1
  | .ok _ _ => .no
  | .exc c s1 => .exc c ρ s1
  | .no => .no
theorem tDA_toF {K : PySem.W.Frag} {mg : Str → Option Value} {ι : Io} {H : Hp} {σ : L2.St} {ρ : Ev} {s : Sto} {fa : Exps} {k : List D → Sto → F} {D' : Ends} {R : List V → Hp → Prop} (er : EnvR K mg H ι ρ σ) (sr : StR K mg H ι s) (h : PoS K mg W ι H ((fa ρ s).toF ρ k) D')
    (go : ∀ v H1 ι1 s1 d, EnvR K mg H1 ι1 ρ σ → StR K mg H1 ι1 s1 → Reps K mg H1 ι1 d v → PoS K mg W ι1 H1 (k d s1) D' → R v H1) : tDA K mg W fa σ H R := by
  refine ⟨ι, ρ, s, er, sr, ?_⟩
  cases e : fa ρ s with
  | no => rw [e] at h; exact h
  | exc c s' =>
    rw [e] at h
    exact fun cls dx H' ι' a st x => h cls dx σ H' ι' a st (er.adv a sr.own) x
  | ok d s1 =>
    rw [e] at h
    exact fun v H1 ι1 a st r => go v H1 ι1 s1 d (er.adv a sr.own) st r (PoS.adv a h)
theorem sPar_eq (i j : Nat) (fa : Exps) (ρ : Ev) (s : Sto) : sPar i j fa ρ s = (fa ρ s).toF ρ fun ds s1 => match ds with
  | [d, e] => .nx ((ρ.set i (some d)).set j (some e)) s1
  | _ => .no := by
  unfold sPar
  cases fa ρ s with
  | ok ds s1 =>
    simp only [R.toF_ok]
    match ds with
    | [] => rfl
    | [_] => rfl
    | [_, _] => rfl
    | _ :: _ :: _ :: _ => rfl
  | exc c s1 => rfl
  | no => rfl
theorem ds_par (i j : Nat) {x y : Str} {a b : Expr} {fa : Exps} {px py pt : Pos} {kt k2 pt2} (hc : X.calm = true) (hN : X.N.Nodup) (ha : DA X W [a, b] fa) (hi : X.N[i]? = some x := by rfl) (hj : X.N[j]? = some y := by rfl) (hij : i ≠ j := by decide)
    (hx : X.env.scope.names.lookup x = some .local := by rfl) (hy : X.env.scope.names.lookup y = some .local := by rfl)
    (hw : swappedStores [.Tuple [.Name x px, .Name y py] kt pt] (.Tuple [a, b] k2 pt2) X.env = pure (some [x, y]) := by rfl)
    (hs : swapsWithSole [.Tuple [.Name x px, .Name y py] kt pt] (.Tuple [a, b] k2 pt2) pos.line X.env = pure false := by rfl) :
    DS X W (.Assign [.Tuple [.Name x px, .Name y py] kt pt] (.Tuple [a, b] k2 pt2) pos) (sPar i j fa) :=
  ps_imp (ps_par hc hN hi hj hij hx hy ha hw hs) fun D σ H ⟨ι, ρ, s, er, sr, q⟩ => by
    rw [sPar_eq] at q
    refine tDA_toF er sr q fun vs H1 ι1 s1 ds er1 sr1 r q1 => ?_
    match ds, vs, r, q1 with
    | [d, e], [v, w], .cons r (.cons r' .nil), q1 => exact ⟨v, w, rfl, q1 _ _ _ (Adv.refl _ _) sr1 ((er1.set i r).set j r')⟩
    | [], _, _, q1 => exact (q1 : False).elim
    | [_], _, _, q1 => exact (q1 : False).elim
    | _ :: _ :: _ :: _, _, _, q1 => exact (q1 : False).elim
end

/-! ### what is walked -/
/-- objects of ours that are walked stand as they stood -/
abbrev Grd := List (Nat × List D)
def okG (g : Grd) (s : Sto) : Bool := g.all fun p => match s[p.1]? with
  | some (.lst xs) => decide (xs = p.2)
  | some (.dic _ _ _) => false
  | none => false
def GrdR (K : PySem.W.Frag) (mg : Str → Option Value) (g : Grd) (ι : Io) (H : Hp) : Prop := ∀ p ∈ g, ∃ a ws, ι.o[p.1]? = some a ∧ H a = some (.lst ws) ∧ Reps K mg H ι p.2 ws
theorem grd_of {K : PySem.W.Frag} {mg : Str → Option Value} {g : Grd} {ι : Io} {H : Hp} {s : Sto} (sr : StR K mg H ι s) (ok : okG g s = true) : GrdR K mg g ι H := fun p hp => by
  have h1 := List.all_eq_true.mp ok p hp
  cases e : s[p.1]? with
  | none => rw [e] at h1; simp at h1
  | some o =>
    cases o with
    | lst xs =>
      rw [e] at h1
      have h2 : xs = p.2 := of_decide_eq_true h1
      have hl : p.1 < ι.o.length := by rw [sr.len]; exact (List.getElem?_eq_some_iff.mp e).1
      have e1 := List.getElem?_eq_getElem hl
      obtain ⟨vs, e3, r3⟩ := sr.at_ p.1 _ _ e1 e
      rw [h2] at r3
      exact ⟨_, vs, e1, e3, r3⟩
    | dic t ks xs => rw [e] at h1; cases h1
/-- J walks ds, whatever the heap comes to -/
def WalkD (K : PySem.W.Frag) (mg : Str → Option Value) (J : It) (ds : List D) (g : Grd) (ι : Io) (H : Hp) : Prop :=
  ∀ ι2 H2, Adv ι H ι2 H2 → Own H2 ι2 → GrdR K mg g ι2 H2 → (∀ i, i < ds.length → J.go i H2) ∧ J.stop ds.length H2 ∧
    ∀ i x H3, i < ds.length → J.yld i H2 x H3 → (∀ b o, H2 b = some o → H3 b = some o) ∧ ∃ d, ds[i]? = some d ∧ Rep K mg H3 ι2 d x
abbrev Itr_ := Ev → Sto → R (List D × Grd)
def tI (K : PySem.W.Frag) (mg : Str → Option Value) (W : WX) (f : Itr_) : TI := fun σ H R => ∃ ι ρ s, EnvR K mg H ι ρ σ ∧ StR K mg H ι s ∧ match f ρ s with
  | .ok p s1 => ∀ J H1 ι1, Adv ι H ι1 H1 → StR K mg H1 ι1 s1 → WalkD K mg J p.1 p.2 ι1 H1 → R J H1
  | .exc c s => ∀ cls dx H' ι', Adv ι H ι' H' → StR K mg H' ι' s → ExR K mg H' ι' c cls dx → W cls dx σ H'
  | .no => False
abbrev DI (X : Cx) (W : WX) (tg iter : Expr) (f : Itr_) : Prop := PI X tg iter (tI X.K X.mg W f)
theorem pi_imp {X : Cx} {tg iter : Expr} {t t' : TI} (h : PI X tg iter t) (i : ∀ σ H R, t' σ H R → t σ H R) : PI X tg iter t' := ⟨fun pins s σ H R I hw => h.run pins s σ H R I (i σ H R hw)⟩

/-- a for's turns -/
def forD (t : Tg) (body : Sm) (g : Grd) : List D → Ev → Sto → F
  | [], ρ, s => if okG g s = true then .nx ρ s else .no
  | d :: ds, ρ, s => if okG g s = true then (match t d ρ s with
      | some (ρ1, s1) => (match body ρ1 s1 with
        | .nx ρ2 s2 => forD t body g ds ρ2 s2
        | .ct ρ2 s2 => forD t body g ds ρ2 s2
        | .bk ρ2 s2 => .nx ρ2 s2
        | .rt d s2 => .rt d s2
        | .exc c ρ2 s2 => .exc c ρ2 s2
        | .no => .no)
      | none => .no) else .no
def sFor (fi : Itr_) (t : Tg) (body : Sm) : Sm := fun ρ s => (fi ρ s).toF ρ fun p s1 => forD t body p.2 p.1 ρ s1
/-- a for, from its first turn -/
abbrev ForW (K : PySem.W.Frag) (mg : Str → Option Value) (W : WX) (t : Tg) (body : Sm) (D : Ends) (σ : L2.St) (J : It) (H1 : Hp) : Prop := ∃ V : Nat → Nat → L2.St → Hp → Prop, (∃ m, V 0 m σ H1) ∧ ∀ i m σ H, V i m σ H →
  (J.stop i H ∧ D.nx σ H) ∨ (J.go i H ∧ ∃ N : L2.St → Hp → Prop, (∀ σ' H', N σ' H' → ∃ m', m' < m ∧ V (i + 1) m' σ' H') ∧ ∀ x H', J.yld i H x H' → tgT K mg t x σ H' fun σ2 H2 => tDS K mg W body { D with nx := N, ct := N, bk := D.nx } σ2 H2)
theorem for_go {K : PySem.W.Frag} {mg : Str → Option Value} {W : WX} {t : Tg} {body : Sm} {E : Ends} {σ : L2.St} {J : It} {ds : List D} {g : Grd} {ι1 : Io} {H1 : Hp} {ρ : Ev} {s1 : Sto} (er1 : EnvR K mg H1 ι1 ρ σ) (sr1 : StR K mg H1 ι1 s1)
    (q1 : PoS K mg W ι1 H1 (forD t body g ds ρ s1) E) (wk : WalkD K mg J ds g ι1 H1) : ForW K mg W t body E σ J H1 := by
  refine ⟨fun i m σ2 H2 => m = ds.length - i ∧ i ≤ ds.length ∧ ∃ ι2 ρ2 s2, Adv ι1 H1 ι2 H2 ∧ EnvR K mg H2 ι2 ρ2 σ2 ∧ StR K mg H2 ι2 s2 ∧ PoS K mg W ι2 H2 (forD t body g (ds.drop i) ρ2 s2) E,
    ⟨ds.length, rfl, Nat.zero_le _, ι1, ρ, s1, Adv.refl _ _, er1, sr1, q1⟩, ?_⟩
  rintro i m σ2 H2 ⟨rfl, hi, ι2, ρ2, s2, a2, er2, sr2, q2⟩
  have okg : okG g s2 = true := by
    cases ok : okG g s2 with
    | true => rfl
    | false =>
      exfalso
      cases hd : ds.drop i with
      | nil => rw [hd, forD, if_neg (by rw [ok]; decide)] at q2; exact q2
      | cons x xs => rw [hd, forD, if_neg (by rw [ok]; decide)] at q2; exact q2
  obtain ⟨go, stop, yl⟩ := wk ι2 H2 a2 sr2.own (grd_of sr2 okg)
  by_cases hlt : i < ds.length
  · refine .inr ⟨go i hlt, fun σ3 H3 => i + 1 ≤ ds.length ∧ ∃ ι3 ρ3 s3, Adv ι1 H1 ι3 H3 ∧ EnvR K mg H3 ι3 ρ3 σ3 ∧ StR K mg H3 ι3 s3 ∧ PoS K mg W ι3 H3 (forD t body g (ds.drop (i + 1)) ρ3 s3) E, ?_, ?_⟩
    · rintro σ3 H3 ⟨h3, ι3, ρ3, s3, a3, er3, sr3, q3⟩
      exact ⟨ds.length - (i + 1), by omega, rfl, h3, ι3, ρ3, s3, a3, er3, sr3, q3⟩
    · intro x H3 hy
      obtain ⟨kp, d, ed, rd⟩ := yl i x H3 hlt hy
      have hdr : ds.drop i = d :: ds.drop (i + 1) := by
        rw [List.drop_eq_getElem_cons hlt]
        rw [List.getElem?_eq_getElem hlt] at ed
        rw [Option.some.inj ed]
      rw [hdr, forD, if_pos okg] at q2
      have a3 := adv_keep ι2 kp
      have er3 := er2.adv a3 sr2.own
      have sr3 := sr2.keep kp
      cases et : t d ρ2 s2 with
      | none => rw [et] at q2; exact (q2 : False).elim
      | some pr =>
        obtain ⟨ρ4, s4⟩ := pr
        rw [et] at q2
        simp only at q2
        refine ⟨ι2, ρ2, s2, d, ρ4, s4, er3, sr3, rd, et, fun σ4 H4 ι4 a4 er4 sr4 => ?_⟩
        have a34 : Adv ι2 H2 ι4 H4 := a3.trans a4
        have q4 := PoS.adv a34 q2
        refine ⟨ι4, ρ4, s4, er4, sr4, ?_⟩
        cases eb : body ρ4 s4 with
        | nx ρ5 s5 =>
          rw [eb] at q4
          exact fun σ5 H5 ι5 a5 sr5 er5 => ⟨hlt, ι5, ρ5, s5, (a2.trans a34).trans a5, er5, sr5, PoS.adv a5 q4⟩
        | ct ρ5 s5 =>
          rw [eb] at q4
          exact fun σ5 H5 ι5 a5 sr5 er5 => ⟨hlt, ι5, ρ5, s5, (a2.trans a34).trans a5, er5, sr5, PoS.adv a5 q4⟩
        | bk ρ5 s5 => rw [eb] at q4; exact q4
        | rt d s5 => rw [eb] at q4; exact q4
        | exc c ρ5 s5 => rw [eb] at q4; exact q4
        | no => rw [eb] at q4; exact q4
  · have e : i = ds.length := by omega
    subst e
    rw [List.drop_length, forD, if_pos okg] at q2
    exact .inl ⟨stop, q2 _ _ _ (Adv.refl _ _) sr2 er2⟩
theorem for_ok {K : PySem.W.Frag} {mg : Str → Option Value} {W : WX} {fi : Itr_} {t : Tg} {body : Sm} {E : Ends} {σ : L2.St} {H : Hp} (h : tDS K mg W (sFor fi t body) E σ H) : tFor (tI K mg W fi) (tgT K mg t) (tDS K mg W body) E σ H := by
  obtain ⟨ι, ρ, s, er, sr, q⟩ := h
  refine ⟨ι, ρ, s, er, sr, ?_⟩
  unfold sFor at q
  cases e : fi ρ s with
  | no => rw [e] at q; exact q
  | exc c s1 =>
    rw [e] at q
    exact fun cls dx H' ι' a st x => q cls dx σ H' ι' a st (er.adv a sr.own) x
  | ok p s1 =>
    rw [e] at q
    obtain ⟨ds, g⟩ := p
    intro J H1 ι1 a1 sr1 wk
    have q1 : PoS K mg W ι1 H1 (forD t body g ds ρ s1) E := PoS.adv a1 q
    have er1 := er.adv a1 sr.own
    exact for_go er1 sr1 q1 wk
section
variable {X : Cx} {W : WX} {tg iter : Expr} {body : List Stmt} {fi : Itr_} {t : Tg} {fb : Sm} {pos : Pos}
theorem ds_for (hp : PassesOwn (model X.prog X.w) X.A X.env X.xe) (hc : X.calm = true) (hi : DI X W tg iter fi) (hg : DG X tg t) (hb : DSs X W body fb) (hs : ∀ x, foldedSetIterable iter X.env x = pure x := by intro _; rfl) :
    DS X W (.For tg iter body [] pos) (sFor fi t fb) := ps_imp (ps_for hp hc hi hg hb hs) fun _ _ _ h => for_ok h
/-- a while's turns: n at most -/
def whlD (c : Tst) (body : Sm) : Nat → Ev → Sto → F
  | 0, _, _ => .no
  | n + 1, ρ, s => (c ρ s).toF ρ fun b s1 => if b = true then (match body ρ s1 with
      | .nx ρ2 s2 => whlD c body n ρ2 s2
      | .ct ρ2 s2 => whlD c body n ρ2 s2
      | .bk ρ2 s2 => .nx ρ2 s2
      | .rt d s2 => .rt d s2
      | .exc c ρ2 s2 => .exc c ρ2 s2
      | .no => .no) else .nx ρ s1
def sWhl (n : Nat) (c : Tst) (body : Sm) : Sm := whlD c body n
theorem whl_ok {K : PySem.W.Frag} {mg : Str → Option Value} {n : Nat} {c : Tst} {E : Ends} {σ : L2.St} {H : Hp} (h : tDS K mg W (sWhl n c fb) E σ H) : tWhile (tDT K mg W c) (tDS K mg W fb) E σ H := by
  obtain ⟨ι, ρ, s, er, sr, q⟩ := h
  refine ⟨fun m σ2 H2 => ∃ ι2 ρ2 s2, EnvR K mg H2 ι2 ρ2 σ2 ∧ StR K mg H2 ι2 s2 ∧ PoS K mg W ι2 H2 (whlD c fb m ρ2 s2) E, ⟨n, ι, ρ, s, er, sr, q⟩, ?_⟩
  rintro m σ2 H2 ⟨ι2, ρ2, s2, er2, sr2, q2⟩
  cases m with
  | zero => exact (q2 : False).elim
  | succ m =>
    refine tDT_toF' er2 sr2 q2 fun b H3 ι3 s3 er3 sr3 a3 q3 => ?_
    cases b with
    | false =>
      rw [if_neg (by decide)] at q3 ⊢
      exact q3 _ _ _ (Adv.refl _ _) sr3 er3
    | true =>
      rw [if_pos rfl] at q3 ⊢
      refine ⟨fun σ4 H4 => ∃ ι4 ρ4 s4, EnvR K mg H4 ι4 ρ4 σ4 ∧ StR K mg H4 ι4 s4 ∧ PoS K mg W ι4 H4 (whlD c fb m ρ4 s4) E, fun σ4 H4 ⟨ι4, ρ4, s4, er4, sr4, q4⟩ => ⟨m, Nat.lt_succ_self _, ι4, ρ4, s4, er4, sr4, q4⟩, ?_⟩
      refine ⟨ι3, ρ2, s3, er3, sr3, ?_⟩
      cases eb : fb ρ2 s3 with
      | nx ρ5 s5 =>
        rw [eb] at q3
        exact fun σ5 H5 ι5 a5 sr5 er5 => ⟨ι5, ρ5, s5, er5, sr5, PoS.adv a5 q3⟩
      | ct ρ5 s5 =>
        rw [eb] at q3
        exact fun σ5 H5 ι5 a5 sr5 er5 => ⟨ι5, ρ5, s5, er5, sr5, PoS.adv a5 q3⟩
      | bk ρ5 s5 => rw [eb] at q3; exact q3
      | rt d s5 => rw [eb] at q3; exact q3
      | exc c ρ5 s5 => rw [eb] at q3; exact q3
      | no => rw [eb] at q3; exact q3
theorem ds_while (n : Nat) {c : Expr} {tc : Tst} (hp : PassesOwn (model X.prog X.w) X.A X.env X.xe) (hc : DT X W c tc) (hb : DSs X W body fb) : DS X W (.While c body [] pos) (sWhl n tc fb) := ps_imp (ps_while hp hc hb) fun _ _ _ h => whl_ok h
end

/-! ### list comprehensions -/
def wipeD (ρ : Ev) : List Nat → Ev
  | [] => ρ
  | v :: vs => (wipeD ρ vs).set v none
theorem EnvR.wipe {K : PySem.W.Frag} {mg : Str → Option Value} {ι : Io} {H : Hp} {ρ : Ev} {σ : L2.St} (h : EnvR K mg H ι ρ σ) : ∀ vs : List Nat, EnvR K mg H ι (wipeD ρ vs) (L2.wipe σ vs)
  | [] => h
  | v :: vs => by unfold wipeD L2.wipe; exact (EnvR.wipe h vs).unset v none
/-- a comprehension's turns -/
def cmpD (t : Tg) (c : Tst) (elt : Exp) (g : Grd) (ρ : Ev) : List D → List D → Sto → R (List D)
  | [], acc, s => if okG g s = true then .ok acc s else .no
  | d :: ds, acc, s => if okG g s = true then (match t d ρ s with
      | some (ρ1, s1) => (match c ρ1 s1 with
        | .ok true s2 => (match elt ρ1 s2 with
          | .ok x s3 => if acc.length < 16777216 then cmpD t c elt g ρ ds (acc ++ [x]) s3 else .no
          | _ => .no)
        | .ok false s2 => cmpD t c elt g ρ ds acc s2
        | _ => .no)
      | none => .no) else .no
def tYesD : Tst := fun _ s => .ok true s
abbrev W0 : WX := fun _ _ _ _ => False
abbrev DTs (X : Cx) (W : WX) (ifs : List Expr) (c : Tst) : Prop := PTs X ifs (tDT X.K X.mg W c)
theorem pts_imp {X : Cx} {e : List Expr} {t t' : TT} (h : PTs X e t) (i : ∀ σ H Q, t' σ H Q → t σ H Q) : PTs X e t' := ⟨fun pins s σ H Q I hw => h.run pins s σ H Q I (i σ H Q hw)⟩
theorem dts_nil {X : Cx} {W : WX} : DTs X W [] tYesD := pts_imp pts_nil fun σ H Q ⟨ι, ρ, s, er, sr, q⟩ => q H ι (Adv.refl _ _) sr
theorem dts_one {X : Cx} {W : WX} {c : Expr} {t : Tst} (h : DT X W c t) : DTs X W [c] t := pts_one h
/-- the target of a comprehension sets its own names alone -/
def tgC (K : PySem.W.Frag) (mg : Str → Option Value) (t : Tg) (vs : List Nat) : TG := fun v σ H Q => ∃ ι ρ s d ρ', EnvR K mg H ι ρ σ ∧ StR K mg H ι s ∧ Rep K mg H ι d v ∧ t d ρ s = some (ρ', s) ∧ ∀ σ', L2.wipe σ' vs = L2.wipe σ vs → EnvR K mg H ι ρ' σ' → Q σ' H
abbrev DGc (X : Cx) (tg : Expr) (t : Tg) (vs : List Nat) : Prop := PG X tg (tgC X.K X.mg t vs)
theorem wipe_set {σ : L2.St} {i : Nat} {o : Option V} : ∀ {vs : List Nat}, i ∈ vs → L2.wipe (σ.set i o) vs = L2.wipe σ vs
  | [], h => nomatch h
  | v :: vs, h => by
    unfold L2.wipe
    by_cases hv : i ∈ vs
    · rw [wipe_set hv]
    · have e : i = v := by
        rcases List.mem_cons.mp h with e | e
        · exact e
        · exact absurd e hv
      subst e
      have go : ∀ ws : List Nat, i ∉ ws → (L2.wipe (σ.set i o) ws) = (L2.wipe σ ws).set i o := fun ws => by
        induction ws with
        | nil => intro _; rfl
        | cons w ws ih =>
          intro hw
          have h1 : i ≠ w := fun e => hw (by rw [e]; exact List.mem_cons_self)
          have h2 : i ∉ ws := fun e => hw (List.mem_cons_of_mem _ e)
          unfold L2.wipe
          rw [ih h2, List.set_comm _ _ h1]
      rw [go vs hv, List.set_set]
theorem dgc_name {X : Cx} {pos : Pos} (i : Nat) {vs : List Nat} {x : Str} (hN : X.N.Nodup) (hm : i ∈ vs := by decide) (hi : X.N[i]? = some x := by rfl) (hx : Loc X.env.scope x := by first | exact Or.inl rfl | exact Or.inr rfl) (hf : X.fn x = true ∨ X.env.scope.names.lookup x = some .local := by first | exact .inl rfl | exact .inr rfl) : DGc X (.Name x pos) (gN i) vs :=
  pg_imp (pg_name hN hi hx hf) fun v σ H Q ⟨ι, ρ, s, d, ρ', er, sr, r, e, q⟩ => by
    have e1 : ρ.set i (some d) = ρ' := congrArg Prod.fst (Option.some.inj e)
    subst e1
    exact q _ (wipe_set hm) (er.set i r)
def tgCs (K : PySem.W.Frag) (mg : Str → Option Value) (t : Tgs) (vs : List Nat) : TGs := fun ws σ H Q => ∃ ι ρ s ds ρ', EnvR K mg H ι ρ σ ∧ StR K mg H ι s ∧ Reps K mg H ι ds ws ∧ t ds ρ s = some (ρ', s) ∧ ∀ σ', L2.wipe σ' vs = L2.wipe σ vs → EnvR K mg H ι ρ' σ' → Q σ' H
abbrev DGcs (X : Cx) (ts : List Expr) (t : Tgs) (vs : List Nat) : Prop := PGs X ts (tgCs X.K X.mg t vs)
theorem dgcs_nil {X : Cx} {vs : List Nat} : DGcs X [] gsNil vs := pgs_imp pgs_nil fun ws σ H Q ⟨ι, ρ, s, ds, ρ', er, sr, r, e, q⟩ => by
  unfold gsNil at e
  cases r with
  | nil =>
    have e1 : ρ = ρ' := congrArg Prod.fst (Option.some.inj e)
    subst e1
    exact ⟨rfl, q σ rfl er⟩
  | cons _ _ => cases e
/-- targets that leave the store as it is -/
def Quiet (t : Tg) : Prop := ∀ d ρ s ρ' s', t d ρ s = some (ρ', s') → s' = s
theorem quiet_gN (i : Nat) : Quiet (gN i) := fun _ _ _ _ _ e => (congrArg Prod.snd (Option.some.inj e)).symm
theorem dgcs_cons {X : Cx} {vs : List Nat} {e : Expr} {es : List Expr} {t : Tg} {u : Tgs} (hq : Quiet t) (h1 : DGc X e t vs) (h2 : DGcs X es u vs) (hs : (assignEach (e :: es) X.env).map (·.2) = assign e X.env :: (assignEach es X.env).map (·.2) := by rfl) : DGcs X (e :: es) (gsCons t u) vs :=
  pgs_imp (pgs_cons h1 h2 hs) fun ws σ H Q ⟨ι, ρ, s, ds, ρ', er, sr, r, e, q⟩ => by
    unfold gsCons at e
    cases r with
    | nil => cases e
    | @cons d ds v ws r rr =>
      simp only at e
      cases e1 : t d ρ s with
      | none => rw [e1] at e; cases e
      | some p =>
        obtain ⟨ρ1, s1⟩ := p
        have := hq d ρ s ρ1 s1 e1
        subst this
        rw [e1] at e
        exact ⟨v, ws, rfl, ι, ρ, s1, d, ρ1, er, sr, r, e1, fun σ1 w1 er1 => ⟨ι, ρ1, s1, ds, ρ', er1, sr, rr, e, fun σ2 w2 er2 => q σ2 (w2.trans w1) er2⟩⟩
theorem quiet_nil : ∀ ds ρ s ρ' s', gsNil ds ρ s = some (ρ', s') → s' = s := fun ds ρ s ρ' s' e => by
  unfold gsNil at e
  split at e
  · exact (congrArg Prod.snd (Option.some.inj e)).symm
  · cases e
theorem dgc_tup {X : Cx} {pos : Pos} {vs : List Nat} {es : List Expr} {k : Nat} {t : Tgs} {n : Nat} (hc : X.calm = true) (h : DGcs X es t vs) (hn : (assignEach es X.env).length = n := by rfl) (hst : (assignEach es X.env).findIdx? (·.1) = none := by rfl) : DGc X (.Tuple es k pos) (gTupD n t) vs :=
  pg_imp (pg_tup hc h hn hst) fun v σ H Q ⟨ι, ρ, s, d, ρ', er, sr, r, e, q⟩ => by
    unfold gTupD at e
    cases r with
    | @tup a vs ds hq rr =>
      simp only at e
      split at e
      · rename_i hl
        exact ⟨a, vs, rfl, hq, by rw [← rr.length]; exact hl, ι, ρ, s, ds, ρ', er, sr, rr, e, q⟩
      · cases e
    | _ => simp at e
def rComp (fi : Itr_) (t : Tg) (c : Tst) (elt : Exp) (vs : List Nat) : Ev → Sto → R (List D) := fun ρ s => (fi ρ s).bind fun p s1 => cmpD t c elt p.2 (wipeD ρ vs) p.1 [] s1
def dComp (fi : Itr_) (t : Tg) (c : Tst) (elt : Exp) (vs : List Nat) : Exp := fun ρ s => (rComp fi t c elt vs ρ s).bind fun ds s1 => .ok (.lst ds) s1
def dCompNew (fi : Itr_) (t : Tg) (c : Tst) (elt : Exp) (vs : List Nat) : Exp := fun ρ s => (rComp fi t c elt vs ρ s).bind fun ds s1 => .ok (.obj s1.length) (s1 ++ [.lst ds])
theorem wipe_mem {σ : L2.St} {v : Nat} : ∀ {vs : List Nat}, v ∈ vs → (L2.wipe σ vs).set v none = L2.wipe σ vs
  | [], h => nomatch h
  | w :: vs, h => by
    unfold L2.wipe
    by_cases e : v = w
    · subst e; rw [List.set_set]
    · have hm : v ∈ vs := by
        rcases List.mem_cons.mp h with z | z
        · exact absurd z e
        · exact z
      rw [List.set_comm _ _ (Ne.symm e), wipe_mem hm]
theorem wipe_sub {σ : L2.St} {vs : List Nat} : ∀ ws : List Nat, (∀ w ∈ ws, w ∈ vs) → L2.wipe (L2.wipe σ vs) ws = L2.wipe σ vs
  | [], _ => rfl
  | w :: ws, h => by
    have ih := wipe_sub (σ := σ) (vs := vs) ws fun x hx => h x (List.mem_cons_of_mem _ hx)
    show (L2.wipe (L2.wipe σ vs) ws).set w none = L2.wipe σ vs
    rw [ih]
    exact wipe_mem (h w List.mem_cons_self)
theorem wipe_wipe (σ : L2.St) (vs : List Nat) : L2.wipe (L2.wipe σ vs) vs = L2.wipe σ vs := wipe_sub vs fun _ h => h
theorem comp_ok {K : PySem.W.Frag} {mg : Str → Option Value} {W : WX} {fi : Itr_} {t : Tg} (qt : Quiet t) {c : Tst} {elt : Exp} {vs : List Nat} {Q : VK} {σ : L2.St} {H : Hp} {k : List D → Sto → R D}
    (hk : ∀ ds s1 ι1 H1 ι2 H2 L ws, Own H1 ι1 → PoE K mg W ι1 H1 σ (k ds s1) Q → Adv ι1 H1 ι2 H2 → StR K mg H2 ι2 s1 → H1 L = none → H2 L = some (.lst ws) → L ∈ ι2.p → Reps K mg H2 ι2 ds ws → Q (.ref L) H2)
    (h : tD K mg W (fun ρ s => (rComp fi t c elt vs ρ s).bind k) σ H Q) : tLc (tI K mg W fi) (tgC K mg t vs) (tDT K mg W0 c) (tD K mg W0 elt) vs σ H Q := by
  obtain ⟨ι, ρ, s, er, sr, q⟩ := h
  refine ⟨ι, ρ, s, er, sr, ?_⟩
  simp only [rComp] at q
  cases e : fi ρ s with
  | no => rw [e] at q; exact q
  | exc c s1 => rw [e] at q; exact q
  | ok p s1 =>
    rw [e] at q
    obtain ⟨ds, g⟩ := p
    intro J H1 ι1 a1 sr1 wk
    simp only [R.bind_ok] at q
    have q1 : PoE K mg W ι1 H1 σ ((cmpD t c elt g (wipeD ρ vs) ds [] s1).bind k) Q := PoE.adv a1 q
    have er1 := (er.adv a1 sr.own).wipe vs
    intro L hL
    have aL0 := adv_upd (o := .lst []) ι1 hL
    have aL : Adv ι1 H1 ⟨ι1.o, L :: ι1.p⟩ (L2.upd H1 L (.lst [])) := ⟨aL0.more, ⟨[L], rfl, fun b hb => by rw [List.mem_singleton.mp hb]; exact hL⟩, aL0.keep, aL0.there⟩
    have srL : StR K mg (L2.upd H1 L (.lst [])) ⟨ι1.o, L :: ι1.p⟩ s1 := by
      have fr := sr1.own.fresh hL
      refine ⟨sr1.len, sr1.nd, fun b hb => ?_, fun b hb hm => ?_, fun i b o e1 e2 => ?_⟩
      · rcases List.mem_cons.mp hb with e | e
        · rw [e]; exact ⟨_, upd_same⟩
        · obtain ⟨xs, z⟩ := sr1.prot b e
          exact ⟨xs, aL0.keep _ _ z fun hm => sr1.apart b e hm⟩
      · rcases List.mem_cons.mp hb with e | e
        · rw [e] at hm; exact fr.1 hm
        · exact sr1.apart b e hm
      · have z := sr1.at_ i b o e1 e2
        exact z.go (fun u z1 => by rw [upd_ne (ne_of_none z1 hL)]; exact z1) fun r => r.adv aL sr1.own
    refine ⟨fun i m H2 => m = ds.length - i ∧ i ≤ ds.length ∧ ∃ ι2 s2 acc ws, Adv ι1 H1 ι2 H2 ∧ EnvR K mg H2 ι2 (wipeD ρ vs) (L2.wipe σ vs) ∧ StR K mg H2 ι2 s2 ∧ H2 L = some (.lst ws) ∧ L ∈ ι2.p ∧ Reps K mg H2 ι2 acc ws ∧
        PoE K mg W ι1 H1 σ ((cmpD t c elt g (wipeD ρ vs) (ds.drop i) acc s2).bind k) Q,
      ⟨ds.length, rfl, Nat.zero_le _, ⟨ι1.o, L :: ι1.p⟩, s1, [], [], aL, er1.adv aL sr1.own, srL, upd_same, List.mem_cons_self, .nil, q1⟩, ?_⟩
    rintro i m H2 ⟨rfl, hi, ι2, s2, acc, ws, a2, er2, sr2, eL, nL, ra, q2⟩
    have okg : okG g s2 = true := by
      cases ok : okG g s2 with
      | true => rfl
      | false =>
        exfalso
        cases hd : ds.drop i with
        | nil => rw [hd, cmpD, if_neg (by rw [ok]; decide)] at q2; exact q2
        | cons x xs => rw [hd, cmpD, if_neg (by rw [ok]; decide)] at q2; exact q2
    obtain ⟨go, stop, yl⟩ := wk ι2 H2 a2 sr2.own (grd_of sr2 okg)
    by_cases hlt : i < ds.length
    · refine .inr ⟨go i hlt, fun H3 => i + 1 ≤ ds.length ∧ ∃ ι3 s3 acc ws, Adv ι1 H1 ι3 H3 ∧ EnvR K mg H3 ι3 (wipeD ρ vs) (L2.wipe σ vs) ∧ StR K mg H3 ι3 s3 ∧ H3 L = some (.lst ws) ∧ L ∈ ι3.p ∧ Reps K mg H3 ι3 acc ws ∧
          PoE K mg W ι1 H1 σ ((cmpD t c elt g (wipeD ρ vs) (ds.drop (i + 1)) acc s3).bind k) Q, ?_, ?_⟩
      · rintro H3 ⟨h3, r3⟩
        exact ⟨ds.length - (i + 1), by omega, rfl, h3, r3⟩
      · intro x H3 hy
        obtain ⟨kp, d, ed, rd⟩ := yl i x H3 hlt hy
        have hdr : ds.drop i = d :: ds.drop (i + 1) := by
          rw [List.drop_eq_getElem_cons hlt]
          rw [List.getElem?_eq_getElem hlt] at ed
          rw [Option.some.inj ed]
        rw [hdr, cmpD, if_pos okg] at q2
        have a3 := adv_keep ι2 kp
        have er3 := er2.adv a3 sr2.own
        have sr3 := sr2.keep kp
        have ra3 := ra.adv a3 sr2.own
        have eL3 := kp _ _ eL
        cases et : t d (wipeD ρ vs) s2 with
        | none => rw [et] at q2; exact (q2 : False).elim
        | some pr =>
          obtain ⟨ρ4, s4⟩ := pr
          have := qt _ _ _ _ _ et
          subst this
          rw [et] at q2
          simp only at q2
          refine ⟨ι2, wipeD ρ vs, s4, d, ρ4, er3, sr3, rd, et, fun σ4 w4 er4 => ⟨by rw [w4]; exact wipe_wipe σ vs, ?_⟩⟩
          refine ⟨ι2, ρ4, s4, er4, sr3, ?_⟩
          cases ec : c ρ4 s4 with
          | no => rw [ec] at q2; exact q2
          | exc cc s5 => rw [ec] at q2; exact (q2 : False).elim
          | ok b s5 =>
            rw [ec] at q2
            intro H5 ι5 a5 sr5
            have a25 : Adv ι1 H1 ι5 H5 := (a2.trans a3).trans a5
            have nL5 := a5.pmem nL
            have eL5 := a5.keep _ _ eL3 (sr3.apart L nL)
            have ra5 := ra3.adv a5 sr3.own
            have er5 := er3.adv a5 sr3.own
            have er45 := er4.adv a5 sr3.own
            cases b with
            | false =>
              rw [if_neg (by decide)]
              exact ⟨hlt, ι5, s5, acc, ws, a25, er5, sr5, eL5, nL5, ra5, q2⟩
            | true =>
              rw [if_pos rfl]
              refine ⟨ι5, ρ4, s5, er45, sr5, ?_⟩
              simp only at q2
              cases ee : elt ρ4 s5 with
              | no => rw [ee] at q2; exact q2
              | exc cc s6 => rw [ee] at q2; exact (q2 : False).elim
              | ok y s6 =>
                rw [ee] at q2
                simp only at q2
                intro v H6 ι6 a6 sr6 ry
                have nL6 := a6.pmem nL5
                have eL6 := a6.keep _ _ eL5 (sr5.apart L nL5)
                have ra6 := ra5.adv a6 sr5.own
                have er6 := er5.adv a6 sr5.own
                split at q2
                · rename_i hlen
                  refine ⟨ws, eL6, by rw [sizeL, ← ra6.length]; exact hlen, hlt, ι6, s6, acc ++ [y], ws ++ [v], ?_, ?_, sr6.protS nL6 sr6.own, upd_same, nL6, ?_, q2⟩
                  · have a16 := a25.trans a6
                    refine ⟨a16.more, a16.prot, fun b o e hn => ?_, fun b o e => ?_⟩
                    · rw [upd_ne (ne_of_none e hL)]; exact a16.keep b o e hn
                    · rw [upd_ne (ne_of_none e hL)]; exact a16.there b o e
                  · refine Paired.mapP er6 fun d v z => ?_
                    cases d with
                    | none => trivial
                    | some d =>
                      cases v with
                      | none => exact z
                      | some v => exact Rep.prot nL6 sr6.own z
                  · exact (ra6.append (.cons ry .nil)).prot nL6 sr6.own
                · exact (q2 : False).elim
    · have e : i = ds.length := by omega
      subst e
      rw [List.drop_length, cmpD, if_pos okg] at q2
      exact .inl ⟨stop, hk acc s2 ι1 H1 ι2 H2 L ws sr1.own q2 a2 sr2 hL eL nL ra⟩
/-- the list that was made is out of its shelter -/
def Io.out (ι : Io) (L : Addr) : Io := ⟨ι.o, ι.p.filter fun b => decide (b ≠ L)⟩
theorem fre_out {ι : Io} {L a : Addr} (h : ι.fre a) : (ι.out L).fre a := ⟨h.1, fun hm => h.2 (List.mem_filter.mp hm).1⟩
section
variable {K : PySem.W.Frag} {mg : Str → Option Value} {ι : Io} {H : Hp} {L : Addr}
mutual
theorem Rep.out : ∀ {d : D} {v : V}, Rep K mg H ι d v → Rep K mg H (ι.out L) d v
  | _, _, .non => .non
  | _, _, .bl b => .bl b
  | _, _, .int i => .int i
  | _, _, .str s h => .str s h
  | _, _, .tup h t => .tup h (Reps.out t)
  | _, _, .lst h n t => .lst h (fre_out n) (Reps.out t)
  | _, _, .fzl h t => .fzl h (Reps.out t)
  | _, _, .obj h => .obj h
  | _, _, .fn h => .fn h
  | _, _, .ty n => .ty n
  | _, _, .dicK h n k t => .dicK h (fre_out n) k (Reps.out t)
  | _, _, .dicT h n k t => .dicT h (fre_out n) k (Reps.out t)
  | _, _, .dct h n k => .dct h (fre_out n) k
theorem Reps.out : ∀ {ds : List D} {vs : List V}, Reps K mg H ι ds vs → Reps K mg H (ι.out L) ds vs
  | _, _, .nil => .nil
  | _, _, .cons h t => .cons (Rep.out h) (Reps.out t)
end
theorem StR.out {s : Sto} (h : StR K mg H ι s) : StR K mg H (ι.out L) s := ⟨h.len, h.nd, fun b hb => h.prot b (List.mem_filter.mp hb).1, fun b hb => h.apart b (List.mem_filter.mp hb).1, fun i a o e1 e2 => by
  have z := h.at_ i a o e1 e2
  exact z.go (fun u e => e) fun r => r.out⟩
theorem Adv.out {ι1 : Io} {H1 : Hp} (a : Adv ι1 H1 ι H) (hL : H1 L = none) (own : Own H1 ι1) : Adv ι1 H1 (ι.out L) H := by
  obtain ⟨pe, e, n⟩ := a.prot
  refine ⟨a.more, ⟨pe.filter fun b => decide (b ≠ L), ?_, fun b hb => n b (List.mem_filter.mp hb).1⟩, a.keep, a.there⟩
  show ι.p.filter _ = _
  rw [e, List.filter_append]
  congr 1
  refine List.filter_eq_self.mpr fun b hb => decide_eq_true fun z => ?_
  obtain ⟨xs, q⟩ := own.2 b hb
  rw [z, hL] at q; cases q
theorem fre_outL (h : StR K mg H ι s) (hm : L ∈ ι.p) : (ι.out L).fre L := ⟨h.apart L hm, fun z => by
  have := of_decide_eq_true (List.mem_filter.mp z).2
  exact this rfl⟩
/-! with one more object of ours -/
theorem fre_addO {p a : Addr} (n : ι.fre a) (hs : p ∈ ι.p) : ((ι.out p).add p).fre a := ⟨fun hm => by
      rcases List.mem_append.mp hm with z | z
      · exact n.1 z
      · rw [List.mem_singleton.mp z] at n; exact n.2 hs, (fre_out n).2⟩
mutual
theorem Rep.add {p : Addr} {ws : List V} (hp : H p = some (.lst ws)) (hs : p ∈ ι.p) : ∀ {d : D} {v : V}, Rep K mg H ι d v → Rep K mg H ((ι.out p).add p) d v
  | _, _, .non => .non
  | _, _, .bl b => .bl b
  | _, _, .int i => .int i
  | _, _, .str s h => .str s h
  | _, _, .tup h t => .tup h (Reps.add hp hs t)
  | _, _, .lst h n t => .lst h ⟨fun hm => by
      rcases List.mem_append.mp hm with z | z
      · exact n.1 z
      · rw [List.mem_singleton.mp z] at n; exact n.2 hs, (fre_out n).2⟩ (Reps.add hp hs t)
  | _, _, .fzl h t => .fzl h (Reps.add hp hs t)
  | _, _, .obj h => .obj (by
      show (ι.o ++ [p])[_]? = _
      rw [List.getElem?_append_left (List.getElem?_eq_some_iff.mp h).1]; exact h)
  | _, _, .fn h => .fn h
  | _, _, .ty n => .ty n
  | _, _, .dicK h n k t => .dicK h (fre_addO n hs) k (Reps.add hp hs t)
  | _, _, .dicT h n k t => .dicT h (fre_addO n hs) k (Reps.add hp hs t)
  | _, _, .dct h n k => .dct h (fre_addO n hs) k
theorem Reps.add {p : Addr} {ws : List V} (hp : H p = some (.lst ws)) (hs : p ∈ ι.p) : ∀ {ds : List D} {vs : List V}, Reps K mg H ι ds vs → Reps K mg H ((ι.out p).add p) ds vs
  | _, _, .nil => .nil
  | _, _, .cons h t => .cons (Rep.add hp hs h) (Reps.add hp hs t)
end
theorem StR.adopt2 {s : Sto} (h : StR K mg H ι s) {ds : List D} {ws : List V} (hp : H L = some (.lst ws)) (hs : L ∈ ι.p) (r : Reps K mg H ι ds ws) : StR K mg H ((ι.out L).add L) (s ++ [.lst ds]) := by
  have fr := fre_outL h hs
  refine ⟨by simp [h.len, Io.out], ?_, fun b hb => h.prot b (List.mem_filter.mp hb).1, fun b hb hm => ?_, fun i b o e1 e2 => ?_⟩
  · show (ι.o ++ [L]).Nodup
    rw [List.nodup_append]
    exact ⟨h.nd, by simp, fun x hx y hy e => fr.1 (by rw [List.mem_singleton.mp hy] at e; rw [← e]; exact hx)⟩
  · rcases List.mem_append.mp hm with hm | hm
    · exact h.apart b (List.mem_filter.mp hb).1 hm
    · rw [List.mem_singleton.mp hm] at hb
      exact fr.2 hb
  · have e1 : (ι.o ++ [L])[i]? = some b := e1
    by_cases hi : i < ι.o.length
    · rw [List.getElem?_append_left hi] at e1
      rw [List.getElem?_append_left (by rw [← h.len]; exact hi)] at e2
      have q := h.at_ i b o e1 e2
      exact q.go (fun u e => e) fun r => r.add hp hs
    · have hi' : i = ι.o.length := by
        have := (List.getElem?_eq_some_iff.mp e1).1
        simp at this; omega
      subst hi'
      rw [List.getElem?_append_right (Nat.le_refl _), Nat.sub_self] at e1
      rw [List.getElem?_append_right (by rw [h.len]; exact Nat.le_refl _), h.len, Nat.sub_self] at e2
      simp at e1 e2
      subst e1 e2
      exact ⟨ws, hp, r.add hp hs⟩
theorem Adv.outAdd {ι1 : Io} {H1 : Hp} (a : Adv ι1 H1 ι H) (hL : H1 L = none) (own : Own H1 ι1) : Adv ι1 H1 ((ι.out L).add L) H := by
  have b := a.out hL own
  obtain ⟨ex, e, n⟩ := b.more
  refine ⟨⟨ex ++ [L], by show (ι.out L).o ++ [L] = _; rw [e, List.append_assoc], fun c hc => ?_⟩, b.prot, b.keep, b.there⟩
  rcases List.mem_append.mp hc with hc | hc
  · exact n c hc
  · rw [List.mem_singleton.mp hc]; exact hL
end
section
variable {X : Cx} {W : WX} {elt tg iter : Expr} {ifs : List Expr} {scope : Scope} {own : List (Str × Nat)} {pos spos : Pos} {fi : Itr_} {t : Tg} {c : Tst} {fe : Exp}
/-- the parts of a comprehension, over the contexts of its block -/
structure CompP (X : Cx) (W : WX) (elt tg iter : Expr) (ifs : List Expr) (scope : Scope) (own : List (Str × Nat)) (fi : Itr_) (t : Tg) (c : Tst) (fe : Exp) : Prop where
  qt : Quiet t
  hi : DI X W tg iter fi
  ok : BlkOk X.N X.env.scope scope own
  hg : ∀ (s : Shared) (H : Hp) (C : Addr) (cl : List (Str × Addr)) (fp : List Addr), DGc (X.blk s H scope (compEnvC scope cl C X.env) fp) tg t (own.map (·.2))
  ht : ∀ (s : Shared) (H : Hp) (C : Addr) (cl : List (Str × Addr)) (fp : List Addr), DTs (X.blk s H scope (compEnvC scope cl C X.env) fp) W0 ifs c
  he : ∀ (s : Shared) (H : Hp) (C : Addr) (cl : List (Str × Addr)) (fp : List Addr), DE (X.blk s H scope (compEnvC scope cl C X.env) fp) W0 elt fe
theorem compK {K : PySem.W.Frag} {mg : Str → Option Value} {σ : L2.St} {Q : VK} (ds : List D) (s1 : Sto) (ι1 : Io) (H1 : Hp) (ι2 : Io) (H2 : Hp) (L : Addr) (ws : List V) (own1 : Own H1 ι1) (q : PoE K mg W ι1 H1 σ (.ok (.lst ds) s1) Q) (a : Adv ι1 H1 ι2 H2) (sr : StR K mg H2 ι2 s1) (hL : H1 L = none)
    (e : H2 L = some (.lst ws)) (m : L ∈ ι2.p) (r : Reps K mg H2 ι2 ds ws) : Q (.ref L) H2 := q _ _ (ι2.out L) (a.out hL own1) sr.out (.lst e (fre_outL sr m) r.out)
theorem compN {K : PySem.W.Frag} {mg : Str → Option Value} {σ : L2.St} {Q : VK} (ds : List D) (s1 : Sto) (ι1 : Io) (H1 : Hp) (ι2 : Io) (H2 : Hp) (L : Addr) (ws : List V) (own1 : Own H1 ι1) (q : PoE K mg W ι1 H1 σ (.ok (.obj s1.length) (s1 ++ [.lst ds])) Q) (a : Adv ι1 H1 ι2 H2) (sr : StR K mg H2 ι2 s1) (hL : H1 L = none)
    (e : H2 L = some (.lst ws)) (m : L ∈ ι2.p) (r : Reps K mg H2 ι2 ds ws) : Q (.ref L) H2 := q _ _ ((ι2.out L).add L) (a.outAdd hL own1) (sr.adopt2 e m r) (.obj (by
      show (ι2.o ++ [L])[_]? = _
      rw [← sr.len]; simp))
theorem de_comp (hc : X.calm = true) (hN : X.N.Nodup) (h : CompP X W elt tg iter ifs scope own fi t c fe) (hs : ∀ x, foldedSetIterable iter X.env x = pure x := by intro _; rfl) : DE X W (.ListComp elt [⟨tg, iter, ifs, 0⟩] scope pos) (dComp fi t c fe (own.map (·.2))) :=
  pe_imp (pe_lc hc hN h.hi h.ok h.hg h.ht h.he hs) fun σ H Q q => comp_ok h.qt (fun ds s1 ι1 H1 ι2 H2 L ws o1 => compK ds s1 ι1 H1 ι2 H2 L ws o1) q
theorem de_compN (hc : X.calm = true) (hN : X.N.Nodup) (h : CompP X W elt tg iter ifs scope own fi t c fe) (hs : ∀ x, foldedSetIterable iter X.env x = pure x := by intro _; rfl) : DE X W (.ListComp elt [⟨tg, iter, ifs, 0⟩] scope pos) (dCompNew fi t c fe (own.map (·.2))) :=
  pe_imp (pe_lc hc hN h.hi h.ok h.hg h.ht h.he hs) fun σ H Q q => comp_ok h.qt (fun ds s1 ι1 H1 ι2 H2 L ws o1 => compN ds s1 ι1 H1 ι2 H2 L ws o1) q
/-- name = [..] on one line -/
theorem setc_ok {K : PySem.W.Frag} {mg : Str → Option Value} {i : Nat} {f : Exp} {D' : Ends} {σ : L2.St} {H : Hp} (h : tDS K mg W (sAsg f (gN i)) D' σ H) : tD K mg W f σ H fun x H1 => gName i x σ H1 D'.nx := by
  obtain ⟨ι, ρ, s, er, sr, q⟩ := h
  exact tD_toF' er sr q fun v H1 ι1 s1 d er1 sr1 r q1 => q1 _ H1 ι1 (Adv.refl _ _) sr1 (er1.set i r)
theorem ds_setLc (i : Nat) {y : Str} {py : Pos} (hc : X.calm = true) (hN : X.N.Nodup) (h : CompP X W elt tg iter ifs scope own fi t c fe) (hy : X.N[i]? = some y := by rfl) (hyl : X.env.scope.names.lookup y = some .local := by rfl)
    (hsw : swapsWith (.ListComp elt [⟨tg, iter, ifs, 0⟩] scope pos) (some (.Name y py)) spos.line X.env = pure true := by exact sw_true rfl rfl rfl (by decide +kernel)) (hs : ∀ x, foldedSetIterable iter X.env x = pure x := by intro _; rfl) :
    DS X W (.Assign [.Name y py] (.ListComp elt [⟨tg, iter, ifs, 0⟩] scope pos) spos) (sAsg (dComp fi t c fe (own.map (·.2))) (gN i)) :=
  ps_imp (ps_setLc hc hN hy hyl hsw h.hi h.ok h.hg h.ht h.he hs) fun D' σ H q => comp_ok h.qt (fun ds s1 ι1 H1 ι2 H2 L ws o1 => compK ds s1 ι1 H1 ι2 H2 L ws o1) (setc_ok q)
theorem ds_setLcN (i : Nat) {y : Str} {py : Pos} (hc : X.calm = true) (hN : X.N.Nodup) (h : CompP X W elt tg iter ifs scope own fi t c fe) (hy : X.N[i]? = some y := by rfl) (hyl : X.env.scope.names.lookup y = some .local := by rfl)
    (hsw : swapsWith (.ListComp elt [⟨tg, iter, ifs, 0⟩] scope pos) (some (.Name y py)) spos.line X.env = pure true := by exact sw_true rfl rfl rfl (by decide +kernel)) (hs : ∀ x, foldedSetIterable iter X.env x = pure x := by intro _; rfl) :
    DS X W (.Assign [.Name y py] (.ListComp elt [⟨tg, iter, ifs, 0⟩] scope pos) spos) (sAsg (dCompNew fi t c fe (own.map (·.2))) (gN i)) :=
  ps_imp (ps_setLc hc hN hy hyl hsw h.hi h.ok h.hg h.ht h.he hs) fun D' σ H q => comp_ok h.qt (fun ds s1 ι1 H1 ι2 H2 L ws o1 => compN ds s1 ι1 H1 ι2 H2 L ws o1) (setc_ok q)
end
end Z

set_option Elab.async false
set_option linter.all false
set_option maxRecDepth 100000
set_option maxHeartbeats 2000000
namespace Z
open PySem PySem.Spec PyProof.Rows L2

/-! ### a def as a function -/
def startD (n : Nat) (ds : List D) : Ev := ds.map some ++ List.replicate (n - ds.length) none
/-- nothing new of ours is left in what stood before -/
def cleanB (s0 s' : Sto) : Bool := (s'.take s0.length).all (oldsO s0.length) || decide (s'.take s0.length = s0)
def exitV (s0 : Sto) (d : D) (s' : Sto) : R D := if cleanB s0 s' = true then (match fz s' s0.length 8 d with
  | some d' => .ok d' (s'.take s0.length)
  | none => .no) else .no
def exitX (s0 : Sto) (c : EC) (s' : Sto) : R D := if cleanB s0 s' = true ∧ oldsL s0.length c.arg = true then .exc c (s'.take s0.length) else .no
def exitF (s0 : Sto) (r : F) : R D := match r with
  | .rt d s' => exitV s0 d s'
  | .nx _ s' => exitV s0 .non s'
  | .exc c _ s' => exitX s0 c s'
  | _ => .no
/-- .. a def that hands back a new object of ours -/
def exitN (s0 : Sto) (r : F) : R D := match r with
  | .rt (.obj j) s' => if cleanB s0 s' = true ∧ s0.length ≤ j then (match s'[j]? with
      | some o => if oldsO s0.length o = true then .ok (.obj s0.length) (s'.take s0.length ++ [o]) else .no
      | none => .no) else .no
  | .exc c _ s' => exitX s0 c s'
  | _ => .no
def runX (ex : Sto → F → R D) (np n : Nat) (body : Sm) : Fn := fun ds s => if ds.length = np then ex s (body (startD n ds) s) else .no
/-- np parameters, n slots -/
abbrev runB (np n : Nat) (body : Sm) : Fn := runX exitF np n body
abbrev runN (np n : Nat) (body : Sm) : Fn := runX exitN np n body
def spG (K : PySem.W.Frag) (mg : Str → Option Value) (n : Nat) (G : Fn) : Sp := fun vs H Q E => vs.length = n ∧ ∃ ι ds s, Reps K mg H ι ds vs ∧ StR K mg H ι s ∧ match G ds s with
  | .ok d s' => ∀ v H' ι', Adv ι H ι' H' → StR K mg H' ι' s' → Rep K mg H' ι' d v → Q v H'
  | .exc c s' => ∀ cls dx H' ι', Adv ι H ι' H' → StR K mg H' ι' s' → ExR K mg H' ι' c cls dx → E cls dx H'
  | .no => False
section
variable {K : PySem.W.Frag} {mg : Str → Option Value} {ι ι' : Io} {H H' : Hp} {s0 s' : Sto}
theorem OR.olds {a : Addr} {o : O} (z : OR K mg H ι a o) : oldsO ι.o.length o = true := by
  cases o with
  | lst ds =>
    obtain ⟨vs, _, r⟩ := z
    exact r.olds
  | dic t ks ds =>
    cases t with
    | false => obtain ⟨kvs, _, _, r⟩ := z; exact r.olds
    | true => obtain ⟨kvs, _, _, r⟩ := z; exact r.olds
theorem OR.shrinkO {ex ex' : List Addr} {a : Addr} {o : O} (z : OR K mg H (Io.more ι ex) a o) (hs : ∀ b ∈ ex', b ∈ ex) (ol : oldsO ι.o.length o = true) : OR K mg H (Io.more ι ex') a o := by
  cases o with
  | lst ds =>
    obtain ⟨vs, h1, r⟩ := z
    exact ⟨vs, h1, r.shrinkTo hs ol⟩
  | dic t ks ds =>
    cases t with
    | false => obtain ⟨kvs, h1, h2, r⟩ := z; exact ⟨kvs, h1, h2, r.shrinkTo hs ol⟩
    | true => obtain ⟨kvs, h1, h2, r⟩ := z; exact ⟨kvs, h1, h2, r.shrinkTo hs ol⟩
theorem clean_olds (sr0 : StR K mg H ι s0) (cl : cleanB s0 s' = true) : ∀ (i : Nat) (o : O), i < s0.length → s'[i]? = some o → oldsO s0.length o = true := fun i o hi e => by
  have e' : (s'.take s0.length)[i]? = some o := by rw [List.getElem?_take, if_pos hi]; exact e
  unfold cleanB at cl
  rcases (Bool.or_eq_true_iff.mp cl).symm with h | h
  · have h := of_decide_eq_true h
    rw [h] at e'
    have hl : i < ι.o.length := by rw [sr0.len]; exact hi
    have z := sr0.at_ i _ o (List.getElem?_eq_getElem hl) e'
    have := z.olds
    rw [sr0.len] at this
    exact this
  · exact List.all_eq_true.mp h o (List.mem_of_getElem? e')
/-- what is left of the store at a def's end -/
theorem exit_sto {ex ex' : List Addr} {new : Sto} (sr0 : StR K mg H ι s0) (eo : ι'.o = ι.o ++ ex) (sr : StR K mg H' ι' s') (cl : cleanB s0 s' = true) (hs : ∀ b ∈ ex', b ∈ ex) (nd : ex'.Nodup) (ln : ex'.length = new.length) (hl : s0.length ≤ s'.length)
    (hn : ∀ (i : Nat) (b : Addr) (o : O), ex'[i]? = some b → new[i]? = some o → OR K mg H' ⟨ι.o ++ ex', ι'.p⟩ b o) : StR K mg H' ⟨ι.o ++ ex', ι'.p⟩ (s'.take s0.length ++ new) := by
  have nd1 : (ι.o ++ ex).Nodup := by rw [← eo]; exact sr.nd
  have lt : (s'.take s0.length).length = s0.length := by rw [List.length_take]; omega
  refine ⟨by rw [List.length_append, List.length_append, lt, ← sr0.len, ln], ?_, sr.prot, fun b hb hm => sr.apart b hb ?_, fun i b o e1 e2 => ?_⟩
  · rw [List.nodup_append] at nd1 ⊢
    exact ⟨nd1.1, nd, fun x hx y hy => nd1.2.2 x hx y (hs y hy)⟩
  · rw [eo]
    rcases List.mem_append.mp hm with m | m
    · exact List.mem_append_left _ m
    · exact List.mem_append_right _ (hs _ m)
  · have e1 : (ι.o ++ ex')[i]? = some b := e1
    by_cases hi : i < ι.o.length
    · rw [List.getElem?_append_left hi] at e1
      have hi' : i < s0.length := by rw [← sr0.len]; exact hi
      rw [List.getElem?_append_left (by rw [lt]; exact hi'), List.getElem?_take, if_pos hi'] at e2
      have z := sr.at_ i b o (by rw [eo, List.getElem?_append_left hi]; exact e1) e2
      have ol := clean_olds sr0 cl i o hi' e2
      have z' : OR K mg H' (Io.more ⟨ι.o, ι'.p⟩ ex) b o := by
        have : (Io.more ⟨ι.o, ι'.p⟩ ex) = ι' := by obtain ⟨o, p⟩ := ι'; simp only at eo; subst eo; rfl
        rw [this]; exact z
      exact z'.shrinkO hs (by show oldsO ι.o.length o = true; rw [sr0.len]; exact ol)
    · have hi2 : ι.o.length ≤ i := Nat.le_of_not_lt hi
      rw [List.getElem?_append_right hi2] at e1
      rw [List.getElem?_append_right (by rw [lt, ← sr0.len]; exact hi2), lt, ← sr0.len] at e2
      exact hn _ b o e1 e2
theorem more_eq {ex : List Addr} (eo : ι'.o = ι.o ++ ex) : (Io.more ⟨ι.o, ι'.p⟩ ex) = ι' := by obtain ⟨o, p⟩ := ι'; simp only at eo; subst eo; rfl
theorem exit_len (sr0 : StR K mg H ι s0) (a : Adv ι H ι' H') (sr : StR K mg H' ι' s') : s0.length ≤ s'.length := by
  obtain ⟨ex, eo, _⟩ := a.more
  rw [← sr0.len, ← sr.len, eo, List.length_append]
  omega
theorem exit_adv (a : Adv ι H ι' H') : Adv ι H ⟨ι.o, ι'.p⟩ H' := ⟨⟨[], by simp, fun _ h => nomatch h⟩, a.prot, a.keep, a.there⟩
theorem exit_ok {G : R D} {Q : VK} {E : XK} {d : D} {v : V} (sr0 : StR K mg H ι s0) (a : Adv ι H ι' H') (sr : StR K mg H' ι' s') (r : Rep K mg H' ι' d v)
    (h : match exitV s0 d s' with
      | .ok d s' => ∀ v H' ι', Adv ι H ι' H' → StR K mg H' ι' s' → Rep K mg H' ι' d v → Q v H'
      | .exc c s' => ∀ cls dx H' ι', Adv ι H ι' H' → StR K mg H' ι' s' → ExR K mg H' ι' c cls dx → E cls dx H'
      | .no => False) : Q v H' := by
  unfold exitV at h
  split at h
  · rename_i d1 s1 e
    split at e
    · rename_i cl
      split at e
      · rename_i d2 e2
        cases e
        obtain ⟨ex, eo, n⟩ := a.more
        have st := exit_sto (ex' := []) (new := []) sr0 eo sr cl (fun _ h => nomatch h) List.nodup_nil rfl (exit_len sr0 a sr) (fun i b o e => nomatch e)
        rw [List.append_nil, List.append_nil] at st
        refine h v H' ⟨ι.o, ι'.p⟩ (exit_adv a) st ?_
        have sr' : StR K mg H' (Io.more ⟨ι.o, ι'.p⟩ ex) s' := by rw [more_eq eo]; exact sr
        exact fz_ok (ι := ⟨ι.o, ι'.p⟩) sr' 8 d d1 v (by show fz s' ι.o.length 8 d = _; rw [sr0.len]; exact e2) (by rw [more_eq eo]; exact r)
      · cases e
    · cases e
  · rename_i e
    split at e
    · split at e <;> cases e
    · cases e
  · exact h.elim
theorem exitX_ok {Q : VK} {E : XK} {c : EC} {cls : Value} {dx : Option Addr} (sr0 : StR K mg H ι s0) (a : Adv ι H ι' H') (sr : StR K mg H' ι' s') (r : ExR K mg H' ι' c cls dx)
    (h : match exitX s0 c s' with
      | .ok d s' => ∀ v H' ι', Adv ι H ι' H' → StR K mg H' ι' s' → Rep K mg H' ι' d v → Q v H'
      | .exc c s' => ∀ cls dx H' ι', Adv ι H ι' H' → StR K mg H' ι' s' → ExR K mg H' ι' c cls dx → E cls dx H'
      | .no => False) : E cls dx H' := by
  unfold exitX at h
  split at h
  · rename_i e
    split at e <;> cases e
  · rename_i c1 s1 e
    split at e
    · rename_i hc
      obtain ⟨cl, ol⟩ := hc
      cases e
      obtain ⟨ex, eo, n⟩ := a.more
      have st := exit_sto (ex' := []) (new := []) sr0 eo sr cl (fun _ h => nomatch h) List.nodup_nil rfl (exit_len sr0 a sr) (fun i b o e => nomatch e)
      rw [List.append_nil, List.append_nil] at st
      refine h cls dx H' ⟨ι.o, ι'.p⟩ (exit_adv a) st ?_
      obtain ⟨h1, h2⟩ := r
      refine ⟨h1, ?_⟩
      cases ea : c.arg with
      | nil => rw [ea] at h2; exact h2
      | cons x xs =>
        rw [ea] at h2 ol
        obtain ⟨d, f, v, e1, e2, e3⟩ := h2
        refine ⟨d, f, v, e1, e2, ?_⟩
        have e3' : Rep K mg H' (Io.more ⟨ι.o, ι'.p⟩ ex) x v := by rw [more_eq eo]; exact e3
        refine e3'.shrink ?_
        rw [oldsL, Bool.and_eq_true] at ol
        show olds ι.o.length x = true
        rw [sr0.len]; exact ol.1
    · cases e
  · exact h.elim
end
theorem startR {K : PySem.W.Frag} {mg : Str → Option Value} {ι : Io} {H : Hp} : ∀ {ds : List D} {vs : List V}, Reps K mg H ι ds vs → ∀ n, Paired (SlotR K mg H ι) (ds.map some ++ List.replicate n none) (vs.map some ++ List.replicate n none)
  | _, _, .nil, n => by
    induction n with
    | zero => exact .nil
    | succ n ih => exact .cons trivial ih
  | _, _, .cons r t, n => .cons r (startR t n)
/-- ends of a body by the def's exit -/
structure Exit (ex : Sto → F → R D) : Prop where
  ok : ∀ (K : PySem.W.Frag) (mg : Str → Option Value) (ι : Io) (H : Hp) (s0 : Sto) (r : F) (Q : VK) (E : XK), StR K mg H ι s0 → (match ex s0 r with
      | .ok d s' => ∀ v H' ι', Adv ι H ι' H' → StR K mg H' ι' s' → Rep K mg H' ι' d v → Q v H'
      | .exc c s' => ∀ cls dx H' ι', Adv ι H ι' H' → StR K mg H' ι' s' → ExR K mg H' ι' c cls dx → E cls dx H'
      | .no => False) → PoS K mg (fun cls d _ H => E cls d H) ι H r { nx := fun _ H' => Q .non H', rt := Q }
theorem exit_F : Exit exitF := ⟨fun K mg ι H s0 r Q E sr0 h => by
  cases r with
  | rt d s' => exact fun v H' ι' a sr r => exit_ok (G := .no) sr0 a sr r h
  | nx ρ s' => exact fun σ' H' ι' a sr r => exit_ok (G := .no) sr0 a sr .non h
  | exc c ρ s' => exact fun cls dx σ' H' ι' a sr er x => exitX_ok sr0 a sr x h
  | bk ρ s' => exact h.elim
  | ct ρ s' => exact h.elim
  | no => exact h.elim⟩
theorem exit_N : Exit exitN := ⟨fun K mg ι H s0 r Q E sr0 h => by
  cases r with
  | rt d s' =>
    cases d with
    | obj j =>
      intro v H' ι' a sr r
      unfold exitN at h
      simp only at h
      by_cases hc : cleanB s0 s' = true ∧ s0.length ≤ j
      · rw [if_pos hc] at h
        obtain ⟨cl, hj⟩ := hc
        cases eo : s'[j]? with
        | none => rw [eo] at h; exact h.elim
        | some o =>
          rw [eo] at h
          simp only at h
          by_cases ho : oldsO s0.length o = true
          · rw [if_pos ho] at h
            cases r with
            | @obj n b hb =>
              obtain ⟨ex, e, nn⟩ := a.more
              have hbx : b ∈ ex := by
                rw [e, List.getElem?_append_right (by rw [sr0.len]; exact hj)] at hb
                exact List.mem_of_getElem? hb
              have z := sr.at_ j b o hb eo
              have st := exit_sto (ex' := [b]) (new := [o]) sr0 e sr cl (fun c hc => by rw [List.mem_singleton.mp hc]; exact hbx) (by simp) rfl (exit_len sr0 a sr) (fun i c u e1 e2 => by
                cases i with
                | succ i => simp at e1
                | zero =>
                  simp at e1 e2
                  subst e1 e2
                  have z' : OR K mg H' (Io.more ⟨ι.o, ι'.p⟩ ex) b o := by rw [more_eq e]; exact z
                  exact z'.shrinkO (fun c hc => by rw [List.mem_singleton.mp hc]; exact hbx) (by show oldsO ι.o.length o = true; rw [sr0.len]; exact ho))
              refine h _ H' ⟨ι.o ++ [b], ι'.p⟩ ⟨⟨[b], rfl, fun c hc => by rw [List.mem_singleton.mp hc]; exact nn b hbx⟩, a.prot, a.keep, a.there⟩ st (.obj ?_)
              show (ι.o ++ [b])[_]? = _
              rw [← sr0.len]; simp
          · rw [if_neg ho] at h; exact h.elim
      · rw [if_neg hc] at h; exact h.elim
    | _ => exact h.elim
  | exc c ρ s' => exact fun cls dx σ' H' ι' a sr er x => exitX_ok sr0 a sr x h
  | nx ρ s' => exact h.elim
  | bk ρ s' => exact h.elim
  | ct ρ s' => exact h.elim
  | no => exact h.elim⟩
section
variable {P : Program} {w : World} {K : PySem.W.Frag} {mg : Str → Option Value} {base : Heap}
/-- a def of the text keeps to its function -/
theorem fn_ok {x qual : Str} {st : Stmt} {f : Addr} {fd : FuncData} {N ps : List Str} {k : Nat} {body : Sm} {ex : Sto → F → R D} (X : Exit ex) (F : Fun K x qual st f fd) (S : FnScope N ps (defScope st))
    (hb : ∀ (cdv : Value) (A : Around) (outer : List Env) (s : Shared) (H : Hp) (E : XK), Room k (A.deeper (envOfC qual (defScope st) s.heap.objs.size f cdv)) →
      Takes (cxOf (L2.CX P w) P w K mg base N qual (defScope st) f cdv A outer s H E) (fun cls d _ H => E cls d H) →
      DSs (cxOf (L2.CX P w) P w K mg base N qual (defScope st) f cdv A outer s H E) (fun cls d _ H => E cls d H) (defBody st) body) :
    FnOk P w K mg base (L2.CX P w) (k + 1) f fd ps (spG K mg ps.length (runX ex ps.length N.length body)) := by
  refine F.okX S (fun vs H Q E h => h.1) fun cdv A outer s H vs Q E hr h => ?_
  obtain ⟨hl, ι, ds, s0, rr, sr, h⟩ := h
  have hd : ds.length = ps.length := by rw [rr.length]; exact hl
  simp only [runX, if_pos hd] at h
  refine ⟨_, hb cdv A outer s H E hr (takes_of rfl rfl rfl rfl), ι, startD N.length ds, s0, ?_, sr, X.ok K mg ι H s0 _ Q E sr h⟩
  show Paired _ (ds.map some ++ List.replicate (N.length - ds.length) none) (vs.map some ++ List.replicate (N.length - vs.length) none)
  rw [rr.length]
  exact startR rr _
end
/-- what a caller knows of a def -/
structure Cal (P : Program) (w : World) (K : PySem.W.Frag) (mg : Str → Option Value) (base : Heap) (k : Nat) (x : Str) (n : Nat) (G : Fn) : Prop where
  ex : ∃ (f : Addr) (fd : FuncData) (ps : List Str), FnOk P w K mg base (L2.CX P w) k f fd ps (spG K mg n G) ∧ mg x = some (.ref f) ∧ PySem.W.keepIn K (.ref f) = true ∧ Binds K fd ps []
  ar : ∀ ds s, ds.length ≠ n → G ds s = .no
theorem Cal.mono {P : Program} {w : World} {K : PySem.W.Frag} {mg : Str → Option Value} {base : Heap} {k k' : Nat} {x : Str} {n : Nat} {G : Fn} (C : Cal P w K mg base k x n G) (h : k ≤ k') : Cal P w K mg base k' x n G := by
  obtain ⟨f, fd, ps, F, r⟩ := C.ex
  exact ⟨⟨f, fd, ps, F.mono h, r⟩, C.ar⟩
theorem runX_ar {ex : Sto → F → R D} {np n : Nat} {body : Sm} : ∀ ds s, ds.length ≠ np → runX ex np n body ds s = .no := fun ds s h => by unfold runX; rw [if_neg h]
def dFn (G : Fn) (fa : Exps) : Exp := fun ρ s => (fa ρ s).bind G
theorem spG_ok {K : PySem.W.Frag} {mg : Str → Option Value} {W : WX} {G : Fn} {σ : L2.St} {n : Nat} {vs : List V} {H1 : Hp} {Q : VK} {ι1 : Io} {ds : List D} {s1 : Sto} (hl : vs.length = n) (sr : StR K mg H1 ι1 s1) (r : Reps K mg H1 ι1 ds vs) (q : PoE K mg W ι1 H1 σ (G ds s1) Q) : spG K mg n G vs H1 Q (WE W σ) := by
  refine ⟨hl, ι1, ds, s1, r, sr, ?_⟩
  cases e : G ds s1 with
  | ok d s2 => rw [e] at q; exact q
  | exc c s2 => rw [e] at q; exact q
  | no => rw [e] at q; exact q
section
variable {X : Cx} {W : WX} {k n : Nat} {x : Str} {G : Fn} {e : Expr} {es : List Expr} {fa : Exps} {p pos : Pos}
theorem call_ok {K : PySem.W.Frag} {mg : Str → Option Value} {ι : Io} {ρ : Ev} {s : Sto} {σ : L2.St} {H : Hp} {Q : VK} (ar : ∀ ds s, ds.length ≠ n → G ds s = .no) (er : EnvR K mg H ι ρ σ) (sr : StR K mg H ι s) (q : PoE K mg W ι H σ ((fa ρ s).bind G) Q) :
    tDA K mg W fa σ H fun vs H1 => spG K mg n G vs H1 Q (WE W σ) := tDA_step er sr q fun vs H1 ι1 s1 ds er1 sr1 r1 q1 => by
  by_cases hl : ds.length = n
  · exact spG_ok (by rw [← r1.length]; exact hl) sr1 r1 q1
  · rw [ar ds s1 hl] at q1
    exact (q1 : False).elim
/-- f(e, ..), f a def of the module -/
theorem de_call (C : Cal X.prog X.w X.K X.mg X.base k x n G) (hr : Room k X.A) (tk : Takes X W) (hg : Gl X x) (ha : DA X W (e :: es) fa) (hdb : (x == ("__debug__" : Str)) = false := by decide)
    (he : starEach (e :: es) X.env = (false, eval e X.env) :: starEach es X.env := by rfl) (hpl : (backTo pos (starEach es X.env)).any (·.1) = false := by rfl) : DE X W (.Call (.Name x p) (e :: es) [] pos) (dFn G fa) := by
  obtain ⟨f, fd, ps, F, hm, hk, hb⟩ := C.ex
  exact pe_imp (pe_callS F hr hg hm hk hb (fun σ => passAt tk σ) ha hdb he hpl) fun σ H Q ⟨ι, ρ, s, er, sr, q⟩ => call_ok C.ar er sr q
/-- f() -/
theorem de_call0 (C : Cal X.prog X.w X.K X.mg X.base k x n G) (hr : Room k X.A) (tk : Takes X W) (hg : Gl X x) (hdb : (x == ("__debug__" : Str)) = false := by decide) : DE X W (.Call (.Name x p) [] [] pos) (dFn G aNil) := by
  obtain ⟨f, fd, ps, F, hm, hk, hb⟩ := C.ex
  refine ⟨fun pins s σ H Q I h => ?_⟩
  obtain ⟨ι, ρ, st, er, sr, q⟩ := h
  refine wpAny_Call_Name_kw (ld_glob I hg hm ?_ hdb)
  refine PySem.W.callWith_K0 I.kIn hk (run_fnS (us := []) (vs := []) (E := WE W) F hr hb (passAt tk σ) I .nil ?_)
  have q1 : PoE X.K X.mg W ι H σ (G [] st) Q := q
  by_cases hl : 0 = n
  · exact spG_ok hl sr .nil q1
  · rw [C.ar [] st hl] at q1
    exact (q1 : False).elim
end
/-- a def as others know it -/
theorem cal_mk {P : Program} {w : World} {K : PySem.W.Frag} {mg : Str → Option Value} {base : Heap} {k : Nat} {x qual : Str} {st : Stmt} {f : Addr} {fd : FuncData} {ps : List Str} {ex : Sto → F → R D} {n : Nat} {body : Sm} (F : Fun K x qual st f fd) (hm : mg x = some (.ref f)) (hb : Binds K fd ps [])
    (h : FnOk P w K mg base (L2.CX P w) k f fd ps (spG K mg ps.length (runX ex ps.length n body))) : Cal P w K mg base k x ps.length (runX ex ps.length n body) := ⟨⟨f, fd, ps, h, hm, F.kp, hb⟩, runX_ar⟩
end Z

set_option Elab.async false
set_option linter.all false
set_option maxRecDepth 100000
set_option maxHeartbeats 2000000
namespace Z
open PySem PySem.Spec PyProof.Rows L2

/-! ### data as the kit's data -/
mutual
def toPy : D → PyData
  | .non => .none
  | .bl b => .bool b
  | .int i => .int i
  | .str s => .str ⟨s.toArray⟩
  | .tup xs => .tuple (toPys xs)
  | .lst xs => .list (toPys xs)
  | .fzl xs => .list (toPys xs)
  | .obj _ => .dict []
  | .fn _ => .dict []
  | .ty _ => .dict []
  | .dct _ => .dict []
  | .dic _ _ _ => .dict []
def toPys : List D → List PyData
  | [] => []
  | x :: xs => toPy x :: toPys xs
end
/-- no object of ours within, at most n deep -/
def pd : Nat → D → Bool
  | 0, d => match d with
    | .non | .bl _ | .int _ | .str _ => true
    | _ => false
  | n + 1, d => match d with
    | .non | .bl _ | .int _ | .str _ => true
    | .tup xs => xs.all (pd n)
    | .lst xs => xs.all (pd n)
    | _ => false
mutual
/-- Python's == -/
def eqD : D → D → Bool
  | .non, .non => true
  | .bl a, .bl b => a == b
  | .bl a, .int j => (if a then 1 else 0) == j
  | .int i, .bl b => i == (if b then 1 else 0)
  | .int i, .int j => i == j
  | .str a, .str b => a == b
  | .tup a, .tup b => eqDs a b
  | .lst a, .lst b => eqDs a b
  | _, _ => false
def eqDs : List D → List D → Bool
  | [], [] => true
  | x :: xs, y :: ys => eqD x y && eqDs xs ys
  | _, _ => false
end
theorem str_beq (a b : List Nat) : ((⟨a.toArray⟩ : Str) == ⟨b.toArray⟩) = (a == b) := by
  rw [Bool.eq_iff_iff, beq_iff_eq, beq_iff_eq]
  constructor
  · intro h
    have := congrArg (fun x : Str => x.cps.toList) h
    simpa using this
  · intro h; rw [h]
theorem pd_succ_tup {n : Nat} {xs : List D} : pd (n + 1) (.tup xs) = xs.all (pd n) := rfl
theorem pd_pos {d : D} : ∀ {n : Nat}, pd n d = true → (∃ xs, d = .tup xs ∨ d = .lst xs) → ∃ m, n = m + 1
  | 0, h, ⟨xs, e⟩ => by rcases e with e | e <;> (subst e; simp [pd] at h)
  | m + 1, _, _ => ⟨m, rfl⟩
theorem pd_no {n : Nat} {d : D} (h : pd n d = true) : (∀ xs, d ≠ .fzl xs) ∧ (∀ j, d ≠ .obj j) ∧ (∀ x, d ≠ .fn x) ∧ ∀ x, d ≠ .ty x := by
  refine ⟨fun xs e => ?_, fun j e => ?_, fun x e => ?_, fun x e => ?_⟩ <;> (subst e; cases n <;> simp [pd] at h)
theorem pd_nd {n : Nat} {ps : List (List Nat × List Nat)} : pd n (.dct ps) = false := by cases n <;> rfl
theorem pd_nc {n : Nat} {t : Bool} {ks vs : List D} : pd n (.dic t ks vs) = false := by cases n <;> rfl
mutual
theorem eqv_toPy : ∀ (x y : D) (n m : Nat), pd n x = true → pd m y = true → PyData.eqv (toPy x) (toPy y) = eqD x y
  | .non, y, n, m, hx, hy => by cases y <;> simp_all [toPy, eqD, PyData.eqv, pd_no hy] <;> (first | exact absurd rfl ((pd_no hy).1 _) | exact absurd rfl ((pd_no hy).2.1 _) | exact absurd rfl ((pd_no hy).2.2.1 _) | exact absurd rfl ((pd_no hy).2.2.2 _) | (rw [pd_nd] at hy; cases hy) | (rw [pd_nc] at hy; cases hy))
  | .bl b, y, n, m, hx, hy => by cases y <;> simp_all [toPy, eqD, PyData.eqv, pd_nd, pd_nc]
  | .int i, y, n, m, hx, hy => by cases y <;> simp_all [toPy, eqD, PyData.eqv, pd_nd, pd_nc]
  | .str s, y, n, m, hx, hy => by
    cases y with
    | str t => simp only [toPy, eqD, PyData.eqv]; exact str_beq s t
    | _ => simp_all [toPy, eqD, PyData.eqv, pd_nd, pd_nc]
  | .tup xs, y, n, m, hx, hy => by
    cases y with
    | tup ys =>
      obtain ⟨n', rfl⟩ := pd_pos hx ⟨xs, .inl rfl⟩
      obtain ⟨m', rfl⟩ := pd_pos hy ⟨ys, .inl rfl⟩
      simp only [toPy, eqD, PyData.eqv]
      exact eqvs_toPy xs ys n' m' hx hy
    | _ => simp_all [toPy, eqD, PyData.eqv, pd_nd, pd_nc]
  | .lst xs, y, n, m, hx, hy => by
    cases y with
    | lst ys =>
      obtain ⟨n', rfl⟩ := pd_pos hx ⟨xs, .inr rfl⟩
      obtain ⟨m', rfl⟩ := pd_pos hy ⟨ys, .inr rfl⟩
      simp only [toPy, eqD, PyData.eqv]
      exact eqvs_toPy xs ys n' m' hx hy
    | fzl ys => exact absurd rfl ((pd_no hy).1 _)
    | _ => simp_all [toPy, eqD, PyData.eqv, pd_nd, pd_nc]
  | .fzl xs, y, n, m, hx, hy => absurd rfl ((pd_no hx).1 _)
  | .obj j, y, n, m, hx, hy => absurd rfl ((pd_no hx).2.1 _)
  | .fn f, y, n, m, hx, hy => absurd rfl ((pd_no hx).2.2.1 _)
  | .ty f, y, n, m, hx, hy => absurd rfl ((pd_no hx).2.2.2 _)
  | .dct f, y, n, m, hx, hy => by rw [pd_nd] at hx; cases hx
  | .dic f g h, y, n, m, hx, hy => by rw [pd_nc] at hx; cases hx
theorem eqvs_toPy : ∀ (xs ys : List D) (n m : Nat), xs.all (pd n) = true → ys.all (pd m) = true → PyData.eqvAll (toPys xs) (toPys ys) = eqDs xs ys
  | [], [], _, _, _, _ => by simp [toPys, eqDs, PyData.eqvAll]
  | [], _ :: _, _, _, _, _ => by simp [toPys, eqDs, PyData.eqvAll]
  | _ :: _, [], _, _, _, _ => by simp [toPys, eqDs, PyData.eqvAll]
  | x :: xs, y :: ys, n, m, hx, hy => by
    rw [List.all_cons, Bool.and_eq_true] at hx hy
    rw [toPys, toPys, PyData.eqvAll, eqDs, eqv_toPy x y n m hx.1 hy.1, eqvs_toPy xs ys n m hx.2 hy.2]
end
theorem pd_plain : ∀ (n : Nat) (d : D), pd n d = true → (toPy d).plain = true ∧ (toPy d).depth ≤ n
  | 0, d, h => by cases d <;> simp_all [pd, toPy, PyData.plain, PyData.depth]
  | n + 1, d, h => by
    have go : ∀ xs : List D, xs.all (pd n) = true → PyData.plainAll (toPys xs) = true ∧ PyData.depthAll (toPys xs) ≤ n := fun xs => by
      induction xs with
      | nil => intro _; simp [toPys, PyData.plainAll, PyData.depthAll]
      | cons x xs ih =>
        intro h
        rw [List.all_cons, Bool.and_eq_true] at h
        obtain ⟨a, b⟩ := pd_plain n x h.1
        obtain ⟨a', b'⟩ := ih h.2
        simp only [toPys, PyData.plainAll, PyData.depthAll, a, a', Bool.and_self, true_and]
        omega
    cases d with
    | tup xs =>
      obtain ⟨a, b⟩ := go xs h
      simp only [toPy, PyData.plain, PyData.depth]
      exact ⟨a, by omega⟩
    | lst xs =>
      obtain ⟨a, b⟩ := go xs h
      simp only [toPy, PyData.plain, PyData.depth]
      exact ⟨a, by omega⟩
    | _ => simp_all [pd, toPy, PyData.plain, PyData.depth]
section
variable {K : PySem.W.Frag} {mg : Str → Option Value} {ι : Io} {H : Hp}
theorem rep_dps {n : Nat} (go : ∀ (d : D) (v : V), pd n d = true → Rep K mg H ι d v → Dp K H v (toPy d)) : ∀ (ds : List D) (vs : List V), ds.all (pd n) = true → Reps K mg H ι ds vs → DpAll K H vs (toPys ds)
  | [], vs, _, r => by cases r; rw [toPys]; exact .nil
  | x :: xs, vs, h, r => by
    cases r with
    | cons r t =>
      rw [List.all_cons, Bool.and_eq_true] at h
      rw [toPys]
      exact .cons (go x _ h.1 r) (rep_dps go xs _ h.2 t)
theorem rep_dp : ∀ (n : Nat) (d : D) (v : V), pd n d = true → Rep K mg H ι d v → Dp K H v (toPy d)
  | 0, d, v, h, r => by
    cases r with
    | non => rw [toPy]; exact .non
    | bl b => rw [toPy]; exact .bl b
    | int i => rw [toPy]; exact .int i
    | str s hl => rw [toPy]; exact .str _
    | tup _ _ => simp [pd] at h
    | lst _ _ _ => simp [pd] at h
    | fzl _ _ => simp [pd] at h
    | obj _ => simp [pd] at h
    | fn _ => simp [pd] at h
    | ty _ => simp [pd] at h
    | dct _ _ _ => simp [pd] at h
    | dicK _ _ _ _ => simp [pd] at h
    | dicT _ _ _ _ => simp [pd] at h
  | n + 1, d, v, h, r => by
    cases r with
    | non => rw [toPy]; exact .non
    | bl b => rw [toPy]; exact .bl b
    | int i => rw [toPy]; exact .int i
    | str s hl => rw [toPy]; exact .str _
    | tup hq r => rw [toPy]; exact .tup hq (rep_dps (rep_dp n) _ _ h r)
    | lst hq _ r => rw [toPy]; exact .lst (SqL.of hq) (rep_dps (rep_dp n) _ _ h r)
    | fzl _ _ => simp [pd] at h
    | obj _ => simp [pd] at h
    | fn _ => simp [pd] at h
    | ty _ => simp [pd] at h
    | dct _ _ _ => simp [pd] at h
    | dicK _ _ _ _ => simp [pd] at h
    | dicT _ _ _ _ => simp [pd] at h
/-- what is to be read of a value: an object of ours by its items -/
def dr (s : Sto) (d : D) : D := match d with
  | .obj n => match s[n]? with
    | some (.lst xs) => .lst xs
    | some (.dic t ks xs) => .dic t ks xs
    | none => .non
  | d => d
theorem rep_rd {s : Sto} (sr : StR K mg H ι s) {d : D} {v : V} {n : Nat} (r : Rep K mg H ι d v) (h : pd n (dr s d) = true) : Dp K H v (toPy (dr s d)) := by
  cases r with
  | @obj j a hj =>
    have hl : j < s.length := by rw [← sr.len]; exact (List.getElem?_eq_some_iff.mp hj).1
    have e := List.getElem?_eq_getElem hl
    have z := sr.at_ j a _ hj e
    cases es : s[j] with
    | lst xs =>
      rw [es] at e z
      obtain ⟨vs, ha, rr⟩ := z
      have ed : dr s (.obj j) = .lst xs := by simp only [dr, e]
      rw [ed] at h ⊢
      cases n with
      | zero => simp [pd] at h
      | succ n =>
        rw [toPy]
        exact .lst (SqL.of ha) (rep_dps (rep_dp n) _ _ h rr)
    | dic t ks xs =>
      rw [es] at e
      have ed : dr s (.obj j) = .dic t ks xs := by simp only [dr, e]
      rw [ed, pd_nc] at h
      cases h
  | non => exact rep_dp (mg := mg) (ι := ι) n _ _ h .non
  | bl b => exact rep_dp (mg := mg) (ι := ι) n _ _ h (.bl b)
  | int i => exact rep_dp (mg := mg) (ι := ι) n _ _ h (.int i)
  | str z hl => exact rep_dp (mg := mg) (ι := ι) n _ _ h (.str z hl)
  | tup hq r => exact rep_dp n _ _ h (.tup hq r)
  | lst hq hf r => exact rep_dp n _ _ h (.lst hq hf r)
  | fzl hq r => exact absurd rfl ((pd_no h).1 _)
  | fn hq => exact absurd rfl ((pd_no h).2.2.1 _)
  | ty n => exact absurd rfl ((pd_no h).2.2.2 _)
  | dct _ _ _ => simp only [dr, pd_nd] at h; cases h
  | dicK _ _ _ _ => simp only [dr, pd_nc] at h; cases h
  | dicT _ _ _ _ => simp only [dr, pd_nc] at h; cases h
/-- the items of a list -/
def sqL (s : Sto) (d : D) : Option (List D) := match d with
  | .lst xs => some xs
  | .obj n => match s[n]? with
    | some (.lst xs) => some xs
    | some (.dic _ _ _) => none
    | none => none
  | _ => none
/-- .. of a list or a tuple -/
def sqA (s : Sto) (d : D) : Option (List D) := match d with
  | .tup xs => some xs
  | d => sqL s d
theorem rep_sqL {s : Sto} (sr : StR K mg H ι s) {d : D} {v : V} {xs : List D} (r : Rep K mg H ι d v) (h : sqL s d = some xs) : ∃ a vs, v = .ref a ∧ H a = some (.lst vs) ∧ Reps K mg H ι xs vs := by
  cases r with
  | @obj j a hj =>
    have hl : j < s.length := by rw [← sr.len]; exact (List.getElem?_eq_some_iff.mp hj).1
    have e := List.getElem?_eq_getElem hl
    have z := sr.at_ j a _ hj e
    cases es : s[j] with
    | lst ys =>
      rw [es] at e z
      obtain ⟨vs, ha, rr⟩ := z
      simp only [sqL, e, Option.some.injEq] at h
      subst h
      exact ⟨a, vs, rfl, ha, rr⟩
    | dic t ks ys =>
      rw [es] at e
      simp only [sqL, e] at h
      cases h
  | @lst a vs ds hq hf r =>
    simp only [sqL, Option.some.injEq] at h
    subst h
    exact ⟨a, vs, rfl, hq, r⟩
  | _ => simp [sqL] at h
theorem rep_sqA {s : Sto} (sr : StR K mg H ι s) {d : D} {v : V} {xs : List D} (r : Rep K mg H ι d v) (h : sqA s d = some xs) : ∃ a vs, v = .ref a ∧ (SqL K H a vs ∨ SqT K H a vs) ∧ Reps K mg H ι xs vs := by
  cases r with
  | @tup a vs ds hq r =>
    simp only [sqA, Option.some.injEq] at h
    subst h
    exact ⟨a, vs, rfl, .inr hq, r⟩
  | obj hj =>
    obtain ⟨a, vs, e, ha, rr⟩ := rep_sqL sr (.obj hj) (show sqL s _ = _ from h)
    exact ⟨a, vs, e, .inl (SqL.of ha), rr⟩
  | lst hq hf r =>
    obtain ⟨a, vs, e, ha, rr⟩ := rep_sqL sr (.lst hq hf r) (show sqL s _ = _ from h)
    exact ⟨a, vs, e, .inl (SqL.of ha), rr⟩
  | _ => simp [sqA, sqL] at h
end
end Z

set_option Elab.async false
set_option linter.all false
set_option maxRecDepth 100000
set_option maxHeartbeats 2000000
namespace Z
open PySem PySem.Spec PyProof.Rows L2

/-! ### ints and texts -/
def c64 (i : Int) : Bool := match i with
  | .ofNat n => Nat.ble n 18446744073709551615
  | .negSucc n => Nat.ble n 18446744073709551614
theorem c64_iff (i : Int) : c64 i = true ↔ -18446744073709551616 < i ∧ i < 18446744073709551616 := by
  cases i with
  | ofNat n =>
    show Nat.ble n 18446744073709551615 = true ↔ _
    rw [Nat.ble_eq]
    constructor
    · intro h; constructor <;> (simp only [Int.ofNat_eq_natCast]; omega)
    · intro h; have := h.2; simp only [Int.ofNat_eq_natCast] at this; omega
  | negSucc n =>
    show Nat.ble n 18446744073709551614 = true ↔ _
    rw [Nat.ble_eq]
    constructor
    · intro h; constructor <;> omega
    · intro h; have := h.1; omega
theorem c64_mul {i j : Int} (h : (c64 i || c64 j) = true) : CMul i j := by
  rw [Bool.or_eq_true, c64_iff, c64_iff] at h
  unfold CMul
  rcases h with h | h
  · exact .inl ⟨by omega, by omega⟩
  · exact .inr ⟨by omega, by omega⟩
theorem strCat (a b : List Nat) : (⟨a.toArray⟩ : Str) ++ ⟨b.toArray⟩ = ⟨(a ++ b).toArray⟩ := by
  show Str.mk (a.toArray ++ b.toArray) = _
  simp
def addD : Op := fun x y s => match x, y with
  | .int i, .int j => some (.int (i + j))
  | .str a, .str b => if a.length + b.length ≤ 16777216 then some (.str (a ++ b)) else none
  | .tup a, .tup b => if a.length + b.length ≤ 16777216 then some (.tup (a ++ b)) else none
  | x, y => match sqL s x, sqL s y with
    | some a, some b => if a.length + b.length ≤ 16777216 then some (.lst (a ++ b)) else none
    | _, _ => none
def subD : Op := fun x y _ => match x, y with
  | .int i, .int j => some (.int (i - j))
  | _, _ => none
def mulD : Op := fun x y s => match x, y with
  | .int i, .int j => if (c64 i || c64 j) = true then some (.int (i * j)) else none
  | .str a, .int n => if 1 ≤ n ∧ n ≤ 1048576 ∧ 1 ≤ a.length ∧ a.length ≤ 16 then some (.str (List.replicate n.toNat a).flatten) else none
  | .tup a, .int n => if a ≠ [] ∧ 2 ≤ n ∧ n ≤ 1000 ∧ a.length ≤ 1000 then some (.tup (List.replicate n.toNat a).flatten) else none
  | x, .int n => match sqL s x with
    | some a => if n ≤ 1048576 ∧ -1048576 ≤ n ∧ a.length * n.toNat ≤ 16777216 then some (.lst (List.replicate n.toNat a).flatten) else none
    | none => none
  | _, _ => none
def fdivD : Op := fun x y _ => match x, y with
  | .int i, .int j => if 0 < j ∧ j < 1073741824 then some (.int (i / j)) else none
  | _, _ => none
def modD : Op := fun x y _ => match x, y with
  | .int i, .int j => if 0 < j then some (.int (i % j)) else none
  | _, _ => none
def powD : Op := fun x y _ => match x, y with
  | .int i, .int j => if 0 ≤ j ∧ j ≤ 1000000 ∧ i.natAbs < 18446744073709551616 then some (.int (i ^ j.toNat)) else none
  | _, _ => none
section
variable {X : Cx}
theorem rep_lst' {K : PySem.W.Frag} {mg : Str → Option Value} {ι : Io} {H : Hp} {st : Sto} {ds : List D} {vs : List V} (sr : StR K mg H ι st) (r : Reps K mg H ι ds vs) {p : Addr} (hp : H p = none) : Rep K mg (upd H p (.lst vs)) ι (.lst ds) (.ref p) :=
  .lst upd_same (sr.own.fresh hp) (r.adv (adv_upd ι hp) sr.own)
theorem rep_tup' {K : PySem.W.Frag} {mg : Str → Option Value} {ι : Io} {H : Hp} {st : Sto} {ds : List D} {vs : List V} (sr : StR K mg H ι st) (r : Reps K mg H ι ds vs) {p : Addr} (hp : H p = none) : Rep K mg (upd H p (.tup vs)) ι (.tup ds) (.ref p) :=
  .tup (SqT.of upd_same) (r.adv (adv_upd ι hp) sr.own)
theorem o_add : Op2 X (binaryOp .Add) addD := by
  intro pins s σ H x y v u Q I rx ry ⟨ι, st, dx, dy, d, sr, r1, r2, e, q⟩
  have lists : ∀ {a b : List D}, sqL st dx = some a → sqL st dy = some b → (if a.length + b.length ≤ 16777216 then some (D.lst (a ++ b)) else none) = some d → wpAny (model X.prog X.w) X.A (binaryOp .Add v u) (EP X pins σ Q) X.xe s := fun {a b} e1 e2 e3 => by
    obtain ⟨l, xs, rfl, h1, q1⟩ := rep_sqL sr r1 e1
    obtain ⟨m, ys, rfl, h2, q2⟩ := rep_sqL sr r2 e2
    split at e3
    · rename_i hl
      cases e3
      exact op_cat pins s σ H _ _ v u Q I rx ry ⟨l, m, xs, ys, rfl, rfl, h1, h2, by rw [sizeL, ← q1.length, ← q2.length]; exact hl, fun p hp => q _ _ (adv_upd ι hp) (sr.upd hp) (rep_lst' sr (q1.append q2) hp)⟩
    · cases e3
  unfold addD at e
  split at e
  · cases e; cases r1; cases r2
    exact op_add pins s σ H _ _ v u Q I rx ry ⟨_, _, rfl, rfl, q _ H (Adv.refl _ _) sr (.int _)⟩
  · split at e
    · rename_i hl
      cases e; cases r1; cases r2
      refine op_add_str pins s σ H _ _ v u Q I rx ry ⟨_, _, rfl, rfl, ?_, ?_⟩
      · rw [sizeL]
        show (List.toArray _).size + (List.toArray _).size ≤ _
        simpa using hl
      · rw [strCat]
        exact q _ H (Adv.refl _ _) sr (.str _ (by simpa using hl))
    · cases e
  · split at e
    · rename_i hl
      cases e
      cases r1 with
      | @tup a xs ds h1 q1 =>
        cases r2 with
        | @tup b ys es h2 q2 =>
          refine op_catA pins s σ H _ _ v u Q I rx ry ⟨a, b, xs, ys, rfl, rfl, h1, h2, by rw [sizeL, ← q1.length, ← q2.length]; exact hl, fun e => ?_, fun _ e => ?_, fun _ _ p hp => ?_⟩
          · subst e
            cases q1
            exact q _ H (Adv.refl _ _) sr (.tup h2 q2)
          · subst e
            cases q2
            rw [List.append_nil] at q
            exact q _ H (Adv.refl _ _) sr (.tup h1 q1)
          · exact q _ _ (adv_upd ι hp) (sr.upd hp) (rep_tup' sr (q1.append q2) hp)
    · cases e
  · split at e
    · rename_i e1 e2
      exact lists e1 e2 e
    · cases e
theorem o_sub : Op2 X (binaryOp .Sub) subD := by
  intro pins s σ H x y v u Q I rx ry ⟨ι, st, dx, dy, d, sr, r1, r2, e, q⟩
  unfold subD at e
  split at e
  · cases e; cases r1; cases r2
    exact op_sub pins s σ H _ _ v u Q I rx ry ⟨_, _, rfl, rfl, q _ H (Adv.refl _ _) sr (.int _)⟩
  · cases e
theorem o_fdiv : Op2 X (binaryOp .FloorDiv) fdivD := by
  intro pins s σ H x y v u Q I rx ry ⟨ι, st, dx, dy, d, sr, r1, r2, e, q⟩
  unfold fdivD at e
  split at e
  · split at e
    · rename_i hj
      cases e; cases r1; cases r2
      exact op_fdiv pins s σ H _ _ v u Q I rx ry ⟨_, _, rfl, rfl, hj, q _ H (Adv.refl _ _) sr (.int _)⟩
    · cases e
  · cases e
theorem o_mod : Op2 X (binaryOp .Mod) modD := by
  intro pins s σ H x y v u Q I rx ry ⟨ι, st, dx, dy, d, sr, r1, r2, e, q⟩
  unfold modD at e
  split at e
  · split at e
    · rename_i hj
      cases e; cases r1; cases r2
      exact op_mod pins s σ H _ _ v u Q I rx ry ⟨_, _, rfl, rfl, hj, q _ H (Adv.refl _ _) sr (.int _)⟩
    · cases e
  · cases e
theorem o_pow : Op2 X (binaryOp .Pow) powD := by
  intro pins s σ H x y v u Q I rx ry ⟨ι, st, dx, dy, d, sr, r1, r2, e, q⟩
  unfold powD at e
  split at e
  · split at e
    · rename_i hj
      cases e; cases r1; cases r2
      exact op_pow pins s σ H _ _ v u Q I rx ry ⟨_, _, rfl, rfl, ⟨hj.1, hj.2.1, by have := hj.2.2; omega⟩, q _ H (Adv.refl _ _) sr (.int _)⟩
    · cases e
  · cases e
theorem mul_txt (a : List Nat) (n : Nat) : Txt.mul ⟨a.toArray⟩ (n : Int) = ⟨(List.replicate n a).flatten.toArray⟩ := by
  have go : ∀ (m : Nat) (acc : List Nat), List.foldl (fun x1 x2 => x1 ++ x2) acc.toArray (List.replicate m a.toArray) = (acc ++ (List.replicate m a).flatten).toArray := fun m => by
    induction m with
    | zero => intro acc; simp
    | succ m ih =>
      intro acc
      rw [List.replicate_succ, List.foldl_cons]
      have e : acc.toArray ++ a.toArray = (acc ++ a).toArray := by simp
      rw [e, ih, List.replicate_succ, List.flatten_cons, List.append_assoc]
  unfold Txt.mul
  by_cases hn : (n : Int) < 1
  · have : n = 0 := by omega
    subst this
    simp
    rfl
  · simp only [hn, if_false]
    have g := go n []
    rw [List.nil_append] at g
    split
    · rename_i h
      simp only [Bool.or_eq_true, beq_iff_eq] at h
      rcases h with h | h
      · have : n = 1 := by omega
        subst this
        simp
      · have ha : a = [] := by
          have : (List.toArray a).size = 0 := h
          simpa using this
        subst ha
        simp
    · rw [Int.toNat_natCast]
      show Str.mk _ = _
      exact congrArg Str.mk g
theorem o_mul : Op2 X (binaryOp .Mult) mulD := by
  intro pins s σ H x y v u Q I rx ry ⟨ι, st, dx, dy, d, sr, r1, r2, e, q⟩
  unfold mulD at e
  split at e
  · split at e
    · rename_i hj
      cases e; cases r1; cases r2
      exact op_mul pins s σ H _ _ v u Q I rx ry ⟨_, _, rfl, rfl, c64_mul hj, q _ H (Adv.refl _ _) sr (.int _)⟩
    · cases e
  · rename_i a n
    split at e
    · rename_i hj
      obtain ⟨h1, h2, h3, h4⟩ := hj
      cases e; cases r1; cases r2
      obtain ⟨t, rfl⟩ := rx
      obtain ⟨t', rfl⟩ := ry
      obtain ⟨m, rfl⟩ : ∃ m : Nat, n = (m : Int) := ⟨n.toNat, by omega⟩
      refine PySem.W.KXi.mul (n := a.length) (by show (List.toArray _).size = _; simp) h4 (by omega) h2 fun t' k _ hl => ?_
      rw [mul_txt]
      refine ⟨.str ⟨_⟩, H, I.kept (t' := k) fun _ _ e => e, ⟨_, rfl⟩, q _ H (Adv.refl _ _) sr (.str _ ?_)⟩
      rw [Int.toNat_natCast, List.length_flatten, List.map_replicate, List.sum_replicate_nat]
      have : m * a.length ≤ 1048576 * 16 := Nat.mul_le_mul (by omega) h4
      omega
    · cases e
  · rename_i a n
    split at e
    · rename_i hj
      obtain ⟨h1, h2, h3, h4⟩ := hj
      cases e; cases r2
      cases r1 with
      | @tup p xs ds hq q1 =>
        refine op_repT pins s σ H _ _ v u Q I rx ry ⟨p, n, xs, rfl, rfl, hq, fun e => ?_, h2, h3, by rw [← q1.length]; exact h4, fun p hp => q _ _ (adv_upd ι hp) (sr.upd hp) (rep_tup' sr (q1.flatten_rep _) hp)⟩
        subst e
        cases q1
        exact h1 rfl
    · cases e
  · rename_i n _ _ _
    split at e
    · rename_i a ea
      split at e
      · rename_i hj
        obtain ⟨h1, h2, h3⟩ := hj
        cases e; cases r2
        obtain ⟨l, xs, rfl, h4, q1⟩ := rep_sqL sr r1 ea
        exact op_rep pins s σ H _ _ v u Q I rx ry ⟨l, n, xs, rfl, rfl, h4, by omega, by omega, by rw [sizeL, ← q1.length]; exact h3, fun p hp => q _ _ (adv_upd ι hp) (sr.upd hp) (rep_lst' sr (q1.flatten_rep _) hp)⟩
      · cases e
    · cases e
  · cases e
end
/-- one-place operations -/
abbrev Op1 := D → Sto → Option D
def rG1 (K : PySem.W.Frag) (mg : Str → Option Value) (g : Op1) : V → Hp → VK → Prop := fun x H Q => ∃ ι s dx d, StR K mg H ι s ∧ Rep K mg H ι dx x ∧ g dx s = some d ∧ ∀ z H', Adv ι H ι H' → StR K mg H' ι s → Rep K mg H' ι d z → Q z H'
def dOp1 (g : Op1) (fa : Exp) : Exp := fun ρ s => (fa ρ s).bind fun x s1 => lift (g x s1) s1
def negD : Op1 := fun x _ => match x with
  | .int i => some (.int (-i))
  | _ => none
theorem de_un {X : Cx} {W : WX} {a : Expr} {fa : Exp} {pos : Pos} {op : UnaryOp} {g : Op1} (ho : UnR X (unaryOp op) (rG1 X.K X.mg g)) (ha : DE X W a fa) : DE X W (.UnaryOp op a pos) (dOp1 g fa) :=
  pe_imp (pe_un ho ha) fun σ H Q ⟨ι, ρ, s, er, sr, q⟩ => tD_step er sr q fun v H1 ι1 s1 d a1 er1 sr1 r1 q1 => by
    cases e : g d s1 with
    | none => rw [e] at q1; exact (q1 : False).elim
    | some d' =>
      rw [e] at q1
      exact ⟨ι1, s1, d, d', sr1, r1, e, fun z H' a st r => q1 z H' ι1 a st r⟩
theorem u_neg {X : Cx} : UnR X (unaryOp .USub) (rG1 X.K X.mg negD) := by
  intro pins s σ H x v Q I rx ⟨ι, st, dx, d, sr, r1, e, q⟩
  unfold negD at e
  split at e
  · cases e; cases r1
    exact un_neg pins s σ H _ v Q I rx ⟨_, rfl, q _ H (Adv.refl _ _) sr (.int _)⟩
  · cases e

/-! ### comparisons -/
def eqO : Op := fun x y s => if pd 40 (dr s x) = true ∧ pd 40 (dr s y) = true then some (.bl (eqD (dr s x) (dr s y))) else none
def neO : Op := fun x y s => if pd 40 (dr s x) = true ∧ pd 40 (dr s y) = true then some (.bl (!eqD (dr s x) (dr s y))) else none
def isNonD : D → Bool
  | .non => true
  | _ => false
def isO : Op := fun x y _ => match x, y with
  | x, .non => some (.bl (isNonD x))
  | .bl a, .bl b => some (.bl (decide (a = b)))
  | _, _ => none
def notO : Op := fun x y _ => match x, y with
  | x, .non => some (.bl (!(isNonD x)))
  | .bl a, .bl b => some (.bl (!decide (a = b)))
  | _, _ => none
/-- an order: of ints, of texts, of alike data -/
def ltD (x y : D) : Option Bool := match x, y with
  | .int i, .int j => some (decide (i < j))
  | .str a, .str b => some (decide (a < b))
  | x, y => if pd 40 x = true ∧ pd 40 y = true ∧ PySem.W.alike (toPy x) (toPy y) = true ∧ x ≠ .non then some (PySem.W.dataLt (toPy x) (toPy y)) else none
def ltO : Op := fun x y _ => (ltD x y).map .bl
def gtO : Op := fun x y _ => match x, y with
  | .int i, .int j => some (.bl (decide (j < i)))
  | .str a, .str b => some (.bl (decide (b < a)))
  | _, _ => none
def leO : Op := fun x y _ => match x, y with
  | .int i, .int j => some (.bl (decide (i ≤ j)))
  | .str a, .str b => some (.bl (!decide (b < a)))
  | _, _ => none
def geO : Op := fun x y _ => match x, y with
  | .int i, .int j => some (.bl (decide (j ≤ i)))
  | .str a, .str b => some (.bl (!decide (a < b)))
  | _, _ => none
/-- x in y -/
def inD (x y : D) (s : Sto) : Option Bool := match y with
  | .str b => (match x with
    | .str [c] => some (decide (c ∈ b))
    | _ => none)
  | y => match sqA s y with
    | some xs => if pd 40 (dr s x) = true ∧ xs.all (pd 40) = true then some (xs.any fun z => eqD z (dr s x)) else none
    | none => none
def inO : Op := fun x y s => (inD x y s).map .bl
def ninO : Op := fun x y s => (inD x y s).map fun b => .bl (!b)
section
variable {X : Cx}
theorem fin_bool {pins : List (Addr × Obj)} {σ : L2.St} {H : Hp} {s : Shared} {ι : Io} {st : Sto} {Q : VK} {b : Bool} (I : Inv X pins σ H s) (sr : StR X.K X.mg H ι st) (q : ∀ z H', Adv ι H ι H' → StR X.K X.mg H' ι st → Rep X.K X.mg H' ι (.bl b) z → Q z H') : EP X pins σ Q (.bool b) s :=
  ⟨.bl b, H, I, rfl, q _ H (Adv.refl _ _) sr (.bl b)⟩
theorem o_eq (hu : X.A.units + 64 < cLine) : Op2 X (compareOp .Eq) eqO := by
  intro pins s σ H x y v u Q I rx ry ⟨ι, st, dx, dy, d, sr, r1, r2, e, q⟩
  unfold eqO at e
  split at e
  · rename_i h
    obtain ⟨h1, h2⟩ := h
    cases e
    obtain ⟨as, t1⟩ := Dp.reads I _ x v (rep_rd sr r1 h1) rx
    obtain ⟨bs, t2⟩ := Dp.reads I _ y u (rep_rd sr r2 h2) ry
    obtain ⟨p1, p2⟩ := pd_plain _ _ h1
    obtain ⟨p3, p4⟩ := pd_plain _ _ h2
    refine PySem.SeqAt.eq_plain t1 t2 p1 p3 (by omega) ?_
    rw [eqv_toPy _ _ _ _ h1 h2]
    exact fin_bool I sr q
  · cases e
theorem o_ne (hu : X.A.units + 64 < cLine) : Op2 X (compareOp .NotEq) neO := by
  intro pins s σ H x y v u Q I rx ry ⟨ι, st, dx, dy, d, sr, r1, r2, e, q⟩
  unfold neO at e
  split at e
  · rename_i h
    obtain ⟨h1, h2⟩ := h
    cases e
    obtain ⟨as, t1⟩ := Dp.reads I _ x v (rep_rd sr r1 h1) rx
    obtain ⟨bs, t2⟩ := Dp.reads I _ y u (rep_rd sr r2 h2) ry
    obtain ⟨p1, p2⟩ := pd_plain _ _ h1
    obtain ⟨p3, p4⟩ := pd_plain _ _ h2
    refine PySem.SeqAt.ne_plain t1 t2 p1 p3 (by omega) ?_
    rw [eqv_toPy _ _ _ _ h1 h2]
    exact fin_bool I sr q
  · cases e
theorem rep_non {K : PySem.W.Frag} {mg : Str → Option Value} {ι : Io} {H : Hp} {d : D} {v : V} (r : Rep K mg H ι d v) : decide (v = .non) = isNonD d := by cases r <;> simp [isNonD]
theorem o_is : Op2 X (compareOp .Is) isO := by
  intro pins s σ H x y v u Q I rx ry ⟨ι, st, dx, dy, d, sr, r1, r2, e, q⟩
  unfold isO at e
  split at e
  · cases e; cases r2
    refine op_isN pins s σ H _ _ v u Q I rx ry ⟨rfl, ?_⟩
    rw [rep_non r1]
    exact q _ H (Adv.refl _ _) sr (.bl _)
  · cases e; cases r1; cases r2
    exact op_isBl pins s σ H _ _ v u Q I rx ry ⟨_, _, rfl, rfl, q _ H (Adv.refl _ _) sr (.bl _)⟩
  · cases e
theorem o_not : Op2 X (compareOp .IsNot) notO := by
  intro pins s σ H x y v u Q I rx ry ⟨ι, st, dx, dy, d, sr, r1, r2, e, q⟩
  unfold notO at e
  split at e
  · cases e; cases r2
    refine op_notN pins s σ H _ _ v u Q I rx ry ⟨rfl, ?_⟩
    rw [rep_non r1]
    exact q _ H (Adv.refl _ _) sr (.bl _)
  · cases e; cases r1; cases r2
    exact op_notBl pins s σ H _ _ v u Q I rx ry ⟨_, _, rfl, rfl, q _ H (Adv.refl _ _) sr (.bl _)⟩
  · cases e
theorem str_lt (a b : List Nat) : decide ((⟨a.toArray⟩ : Str).cps.toList < (⟨b.toArray⟩ : Str).cps.toList) = decide (a < b) := by simp
theorem o_lt (hu : X.A.units + 64 < cLine) : Op2 X (compareOp .Lt) ltO := by
  intro pins s σ H x y v u Q I rx ry ⟨ι, st, dx, dy, d, sr, r1, r2, e, q⟩
  unfold ltO ltD at e
  split at e
  · cases e; cases r1; cases r2
    exact op_lt pins s σ H _ _ v u Q I rx ry ⟨_, _, rfl, rfl, q _ H (Adv.refl _ _) sr (.bl _)⟩
  · cases e; cases r1; cases r2
    refine op_lt_str pins s σ H _ _ v u Q I rx ry ⟨_, _, rfl, rfl, ?_⟩
    rw [str_lt]
    exact q _ H (Adv.refl _ _) sr (.bl _)
  · split at e
    · rename_i h
      obtain ⟨h1, h2, h3, h4⟩ := h
      cases e
      obtain ⟨as, t1⟩ := Dp.reads I _ x v (rep_dp 40 _ _ h1 r1) rx
      obtain ⟨bs, t2⟩ := Dp.reads I _ y u (rep_dp 40 _ _ h2 r2) ry
      obtain ⟨p1, p2⟩ := pd_plain _ _ h1
      refine PySem.W.lt_data t1 t2 h3 (fun z => h4 ?_) (by omega) (fin_bool I sr q)
      cases dx <;> simp_all [toPy]
    · cases e
theorem o_gt : Op2 X (compareOp .Gt) gtO := by
  intro pins s σ H x y v u Q I rx ry ⟨ι, st, dx, dy, d, sr, r1, r2, e, q⟩
  unfold gtO at e
  split at e
  · cases e; cases r1; cases r2
    exact op_gt pins s σ H _ _ v u Q I rx ry ⟨_, _, rfl, rfl, q _ H (Adv.refl _ _) sr (.bl _)⟩
  · cases e; cases r1; cases r2
    refine op_gt_str pins s σ H _ _ v u Q I rx ry ⟨_, _, rfl, rfl, ?_⟩
    rw [str_lt]
    exact q _ H (Adv.refl _ _) sr (.bl _)
  · cases e
theorem o_le : Op2 X (compareOp .LtE) leO := by
  intro pins s σ H x y v u Q I rx ry ⟨ι, st, dx, dy, d, sr, r1, r2, e, q⟩
  unfold leO at e
  split at e
  · cases e; cases r1; cases r2
    exact op_le pins s σ H _ _ v u Q I rx ry ⟨_, _, rfl, rfl, q _ H (Adv.refl _ _) sr (.bl _)⟩
  · cases e; cases r1; cases r2
    refine op_le_str pins s σ H _ _ v u Q I rx ry ⟨_, _, rfl, rfl, ?_⟩
    rw [str_lt]
    exact q _ H (Adv.refl _ _) sr (.bl _)
  · cases e
theorem o_ge : Op2 X (compareOp .GtE) geO := by
  intro pins s σ H x y v u Q I rx ry ⟨ι, st, dx, dy, d, sr, r1, r2, e, q⟩
  unfold geO at e
  split at e
  · cases e; cases r1; cases r2
    exact op_ge pins s σ H _ _ v u Q I rx ry ⟨_, _, rfl, rfl, q _ H (Adv.refl _ _) sr (.bl _)⟩
  · cases e; cases r1; cases r2
    refine op_ge_str pins s σ H _ _ v u Q I rx ry ⟨_, _, rfl, rfl, ?_⟩
    rw [str_lt]
    exact q _ H (Adv.refl _ _) sr (.bl _)
  · cases e
/-- the parts of "in": a text; a list or tuple of data -/
theorem in_go {K : PySem.W.Frag} {mg : Str → Option Value} {ι : Io} {H : Hp} {st : Sto} {dx dy : D} {x y : V} {b : Bool} (sr : StR K mg H ι st) (r1 : Rep K mg H ι dx x) (r2 : Rep K mg H ι dy y) (e : inD dx dy st = some b) :
    (∃ c z, x = .str ⟨#[c]⟩ ∧ y = .str z ∧ b = decide (c ∈ z.cps.toList)) ∨
      ∃ a vs xs, y = .ref a ∧ (SqL K H a vs ∨ SqT K H a vs) ∧ Reps K mg H ι xs vs ∧ pd 40 (dr st dx) = true ∧ xs.all (pd 40) = true ∧ b = xs.any fun z => eqD z (dr st dx) := by
  unfold inD at e
  split at e
  · split at e
    · cases e; cases r1; cases r2
      exact .inl ⟨_, _, rfl, rfl, by simp⟩
    · cases e
  · split at e
    · rename_i xs ea
      split at e
      · rename_i h
        cases e
        obtain ⟨a, vs, rfl, hs, rr⟩ := rep_sqA sr r2 ea
        exact .inr ⟨a, vs, xs, rfl, hs, rr, h.1, h.2, rfl⟩
      · cases e
    · cases e
theorem any_toPy {n m : Nat} {d : D} (hd : pd m d = true) : ∀ xs : List D, xs.all (pd n) = true → (toPys xs).any (fun y => PyData.eqv y (toPy d)) = xs.any fun z => eqD z d
  | [], _ => rfl
  | x :: xs, h => by
    rw [List.all_cons, Bool.and_eq_true] at h
    rw [toPys, List.any_cons, List.any_cons, eqv_toPy x d n m h.1 hd, any_toPy hd xs h.2]
theorem rep_all {K : PySem.W.Frag} {mg : Str → Option Value} {ι : Io} {H : Hp} {xs : List D} {vs : List V} {a : Addr} {n : Nat} (hs : SqL K H a vs ∨ SqT K H a vs) (rr : Reps K mg H ι xs vs) (h : xs.all (pd n) = true) :
    Dp K H (.ref a) (.list (toPys xs)) ∨ Dp K H (.ref a) (.tuple (toPys xs)) := by
  rcases hs with hs | hs
  · exact .inl (.lst hs (rep_dps (rep_dp n) _ _ h rr))
  · exact .inr (.tup hs (rep_dps (rep_dp n) _ _ h rr))
theorem pds_plain {n : Nat} {xs : List D} (h : xs.all (pd n) = true) : PyData.plainAll (toPys xs) = true ∧ PyData.depthAll (toPys xs) ≤ n := by
  induction xs with
  | nil => simp [toPys, PyData.plainAll, PyData.depthAll]
  | cons x xs ih =>
    rw [List.all_cons, Bool.and_eq_true] at h
    obtain ⟨a, b⟩ := pd_plain n x h.1
    obtain ⟨a', b'⟩ := ih h.2
    simp only [toPys, PyData.plainAll, PyData.depthAll, a, a', Bool.and_self, true_and]
    omega
theorem o_in (hu : X.A.units + 64 < cLine) : Op2 X (compareOp .In) inO := by
  intro pins s σ H x y v u Q I rx ry ⟨ι, st, dx, dy, d, sr, r1, r2, e, q⟩
  unfold inO at e
  cases eb : inD dx dy st with
  | none => rw [eb] at e; cases e
  | some b =>
    rw [eb] at e
    cases e
    rcases in_go sr r1 r2 eb with ⟨c, z, rfl, rfl, rfl⟩ | ⟨a, vs, xs, rfl, hs, rr, h1, h2, rfl⟩
    · exact op_in_sign pins s σ H _ _ v u Q I rx ry ⟨c, z, rfl, rfl, q _ H (Adv.refl _ _) sr (.bl _)⟩
    · obtain ⟨as, t1⟩ := Dp.reads I _ x v (rep_rd sr r1 h1) rx
      obtain ⟨p1, p2⟩ := pd_plain _ _ h1
      obtain ⟨p3, p4⟩ := pds_plain h2
      rw [← any_toPy h1 xs h2] at q
      rcases rep_all hs rr h2 with t | t
      · obtain ⟨bs, t2⟩ := Dp.reads I _ _ u t ry
        exact PySem.SeqAt.in_list_data t2 t1 p3 p1 (by omega) (fin_bool I sr q)
      · obtain ⟨bs, t2⟩ := Dp.reads I _ _ u t ry
        exact PySem.SeqAt.in_tuple_data t2 t1 p3 p1 (by omega) (fin_bool I sr q)
theorem o_nin (hu : X.A.units + 64 < cLine) : Op2 X (compareOp .NotIn) ninO := by
  intro pins s σ H x y v u Q I rx ry ⟨ι, st, dx, dy, d, sr, r1, r2, e, q⟩
  unfold ninO at e
  cases eb : inD dx dy st with
  | none => rw [eb] at e; cases e
  | some b =>
    rw [eb] at e
    cases e
    rcases in_go sr r1 r2 eb with ⟨c, z, rfl, rfl, rfl⟩ | ⟨a, vs, xs, rfl, hs, rr, h1, h2, rfl⟩
    · exact op_notIn_sign pins s σ H _ _ v u Q I rx ry ⟨c, z, rfl, rfl, q _ H (Adv.refl _ _) sr (.bl _)⟩
    · obtain ⟨as, t1⟩ := Dp.reads I _ x v (rep_rd sr r1 h1) rx
      obtain ⟨p1, p2⟩ := pd_plain _ _ h1
      obtain ⟨p3, p4⟩ := pds_plain h2
      rw [← any_toPy h1 xs h2] at q
      rcases rep_all hs rr h2 with t | t
      · obtain ⟨bs, t2⟩ := Dp.reads I _ _ u t ry
        exact PySem.SeqAt.notIn_list_data t2 t1 p3 p1 (by omega) (fin_bool I sr q)
      · obtain ⟨bs, t2⟩ := Dp.reads I _ _ u t ry
        exact PySem.SeqAt.notIn_tuple_data t2 t1 p3 p1 (by omega) (fin_bool I sr q)
end
end Z

set_option Elab.async false
set_option linter.all false
set_option maxRecDepth 100000
set_option maxHeartbeats 2000000
namespace Z
open PySem PySem.Spec PyProof.Rows L2

/-! ### items and cuts -/
def ixD : Op := fun x y s => match x, y with
  | .str a, .int i => (atI a i).map fun c => .str [c]
  | x, .int i => match sqA s x with
    | some xs => atI xs i
    | none => none
  | _, _ => none
abbrev Ix2 (X : Cx) (g : Op) : Prop := IxR X (rG X.K X.mg g)
theorem ixN_lt {n : Nat} {i : Int} {j : Nat} (h : ixN n i = some j) : j < n := (ixN_seq h).2.1
theorem atI_rep {K : PySem.W.Frag} {mg : Str → Option Value} {ι : Io} {H : Hp} {xs : List D} {vs : List V} {i : Int} {d : D} (r : Reps K mg H ι xs vs) (h : atI xs i = some d) : ∃ v, atI vs i = some v ∧ Rep K mg H ι d v := by
  unfold atI at h ⊢
  rw [← r.length]
  cases e : ixN xs.length i with
  | none => rw [e] at h; cases h
  | some j =>
    rw [e] at h
    obtain ⟨v, h1, h2⟩ := r.get (show xs[j]? = some d from h)
    exact ⟨v, h1, h2⟩
theorem i_ix {X : Cx} : Ix2 X ixD := by
  intro value slice pins s σ H x y v u Q I rx ry ⟨ι, st, dx, dy, d, sr, r1, r2, e, q⟩ hs
  refine ix_seq value slice pins s σ H x y v u Q I rx ry ?_ hs
  unfold ixD at e
  split at e
  · rename_i a i
    cases r2
    cases r1 with
    | str _ hl =>
      cases ec : atI a i with
      | none => rw [ec] at e; cases e
      | some c =>
        rw [ec] at e
        cases e
        refine .inr (.inr ⟨⟨a.toArray⟩, i, c, rfl, rfl, ?_, by simpa using ec, ?_⟩)
        · rw [sizeL]; show (List.toArray a).size ≤ _; simpa using hl
        · exact q _ H (Adv.refl _ _) sr (Rep.str [c] (by simp))
  · rename_i i hx
    cases r2
    split at e
    · rename_i xs ea
      obtain ⟨a, vs, rfl, hs, rr⟩ := rep_sqA sr r1 ea
      obtain ⟨v, h1, h2⟩ := atI_rep rr e
      rcases hs with hs | hs
      · exact .inl ⟨a, vs, i, v, rfl, rfl, hs, h1, q _ H (Adv.refl _ _) sr h2⟩
      · exact .inr (.inl ⟨a, vs, i, v, rfl, rfl, hs, h1, q _ H (Adv.refl _ _) sr h2⟩)
    · cases e
  · cases e
theorem de_ix {X : Cx} {W : WX} {a b : Expr} {fa fb : Exp} {pos : Pos} {g : Op} (hr : Ix2 X g) (ha : DE X W a fa) (hb : DE X W b fb) (hs : PlainIx b := by exact fun _ _ => rfl) : DE X W (.Subscript a b pos) (dOp g fa fb) := pe_imp (pe_ix hr ha hb hs) fun _ _ _ h => tOp_ok h
/-- a part of a slice -/
abbrev Prt := Ev → Sto → R (Option Int)
def tO (K : PySem.W.Frag) (mg : Str → Option Value) (W : WX) (f : Prt) : TO := fun σ H Q => ∃ ι ρ s, EnvR K mg H ι ρ σ ∧ StR K mg H ι s ∧ match f ρ s with
  | .ok o s1 => ∀ H1 ι1, Adv ι H ι1 H1 → StR K mg H1 ι1 s1 → Q o H1
  | .exc c s1 => ∀ cls dx H' ι', Adv ι H ι' H' → StR K mg H' ι' s1 → ExR K mg H' ι' c cls dx → W cls dx σ H'
  | .no => False
abbrev DO (X : Cx) (W : WX) (e : Option Expr) (f : Prt) : Prop := PO X e (tO X.K X.mg W f)
def oNone : Prt := fun _ s => .ok none s
def oSome (f : Exp) : Prt := fun ρ s => (f ρ s).bind fun d s1 => match d with
  | .int i => .ok (some i) s1
  | _ => .no
section
variable {X : Cx} {W : WX} {e : Expr} {fe : Exp} {lo hi : Option Expr} {fl fh : Prt} {pos p2 : Pos}
theorem po_imp {e : Option Expr} {t t' : TO} (h : PO X e t) (i : ∀ σ H Q, t' σ H Q → t σ H Q) : PO X e t' := ⟨fun pins s σ H Q I hw => h.run pins s σ H Q I (i σ H Q hw)⟩
theorem do_none : DO X W none oNone := po_imp po_none fun σ H Q ⟨ι, ρ, s, er, sr, q⟩ => q H ι (Adv.refl _ _) sr
theorem do_some (h : DE X W e fe) : DO X W (some e) (oSome fe) := po_imp (po_some h) fun σ H Q ⟨ι, ρ, s, er, sr, q⟩ => by
  refine ⟨ι, ρ, s, er, sr, ?_⟩
  unfold oSome at q
  cases ee : fe ρ s with
  | no => rw [ee] at q; exact q
  | exc c s1 => rw [ee] at q; exact q
  | ok d s1 =>
    rw [ee] at q
    intro v H1 ι1 a st r
    cases d with
    | int i => cases r; exact ⟨i, rfl, q H1 ι1 a st⟩
    | _ => exact (q : False).elim
def cut {α : Type} (xs : List α) (lo hi : Option Int) : List α := (xs.drop (HT.sIx xs.length 0 lo)).take (HT.sIx xs.length xs.length hi - HT.sIx xs.length 0 lo)
def cutD (x : D) (lo hi : Option Int) (s : Sto) : Option D := match x with
  | .str a => some (.str (cut a lo hi))
  | .tup a => some (.tup (cut a lo hi))
  | x => (sqL s x).map fun a => .lst (cut a lo hi)
theorem cut_rep {K : PySem.W.Frag} {mg : Str → Option Value} {ι : Io} {H : Hp} {xs : List D} {vs : List V} (lo hi : Option Int) (r : Reps K mg H ι xs vs) : Reps K mg H ι (cut xs lo hi) (cutV vs lo hi) := by
  unfold cut cutV
  rw [r.length]
  exact (r.drop _).take _
theorem cut_all {α : Type} {xs : List α} {lo hi : Option Int} (h : HT.sIx xs.length 0 lo = 0 ∧ HT.sIx xs.length xs.length hi = xs.length) : cut xs lo hi = xs := by
  unfold cut
  rw [h.1, h.2]
  simp
def rSlD (K : PySem.W.Frag) (mg : Str → Option Value) : V → Option Int → Option Int → Hp → VK → Prop := fun x lo hi H Q => ∃ ι s dx d, StR K mg H ι s ∧ Rep K mg H ι dx x ∧ cutD dx lo hi s = some d ∧ ∀ z H', Adv ι H ι H' → StR K mg H' ι s → Rep K mg H' ι d z → Q z H'
theorem sl_all : SlR X (rSlD X.K X.mg) := by
  have h3 : SlR X (fun x lo hi H Q => rSlL X.K x lo hi H Q ∨ rSlA X.K x lo hi H Q ∨ rSlS x lo hi H Q) := SlR.or sl_list (SlR.or sl_tupA sl_str)
  intro pins s σ H x v vl vu lo hi sl Q I rx hs pl pu ⟨ι, st, dx, d, sr, r1, e, q⟩
  refine h3 pins s σ H x v vl vu lo hi sl Q I rx hs pl pu ?_
  unfold cutD at e
  split at e
  · rename_i a
    cases e
    cases r1 with
    | str _ hl =>
      refine .inr (.inr ⟨⟨a.toArray⟩, rfl, by rw [sizeL]; show (List.toArray a).size ≤ _; simpa using hl, ?_⟩)
      have e : cutS ⟨a.toArray⟩ lo hi = ⟨(cut a lo hi).toArray⟩ := by
        unfold cutS cut
        simp [Str.length]
      rw [e]
      refine q _ H (Adv.refl _ _) sr (.str _ ?_)
      unfold cut
      rw [List.length_take, List.length_drop]
      omega
  · rename_i a
    cases e
    cases r1 with
    | @tup p vs ds hq rr =>
      refine .inr (.inl ⟨p, vs, rfl, hq, fun hw => ?_, fun hw p hp => ?_⟩)
      · rw [← rr.length] at hw
        rw [cut_all hw] at q
        exact q _ H (Adv.refl _ _) sr (.tup hq rr)
      · exact q _ _ (adv_upd ι hp) (sr.upd hp) (rep_tup' sr (cut_rep lo hi rr) hp)
  · cases ea : sqL st dx with
    | none => rw [ea] at e; cases e
    | some xs =>
      rw [ea] at e
      cases e
      obtain ⟨a, vs, rfl, ha, rr⟩ := rep_sqL sr r1 ea
      exact .inl ⟨a, vs, rfl, SqL.of ha, fun p hp => q _ _ (adv_upd ι hp) (sr.upd hp) (rep_lst' sr (cut_rep lo hi rr) hp)⟩
def dSl (fe : Exp) (fl fh : Prt) : Exp := fun ρ s => (fe ρ s).bind fun x s1 => (fl ρ s1).bind fun lo s2 => (fh ρ s2).bind fun hi s3 => lift (cutD x lo hi s3) s3
theorem tO_step {K : PySem.W.Frag} {mg : Str → Option Value} {W : WX} {f : Prt} {ρ : Ev} {s : Sto} {ι : Io} {H : Hp} {σ : L2.St} {k : Option Int → Sto → R D} {Q : VK} {R : Option Int → Hp → Prop}
    (er : EnvR K mg H ι ρ σ) (sr : StR K mg H ι s) (h : PoE K mg W ι H σ ((f ρ s).bind k) Q)
    (go : ∀ b H1 ι1 s1, Adv ι H ι1 H1 → EnvR K mg H1 ι1 ρ σ → StR K mg H1 ι1 s1 → PoE K mg W ι1 H1 σ (k b s1) Q → R b H1) : tO K mg W f σ H R := by
  refine ⟨ι, ρ, s, er, sr, ?_⟩
  cases e : f ρ s with
  | no => rw [e] at h; exact h
  | exc c s1 => rw [e] at h; exact h
  | ok b s1 =>
    rw [e] at h
    exact fun H1 ι1 a st => go b H1 ι1 s1 a (er.adv a sr.own) st (PoE.adv a h)
theorem de_slice (he : DE X W e fe) (hl : DO X W lo fl) (hu : DO X W hi fh) : DE X W (.Subscript e (.Slice lo hi none p2) pos) (dSl fe fl fh) :=
  pe_imp (pe_slice sl_all he hl hu) fun σ H Q ⟨ι, ρ, s, er, sr, q⟩ => tD_step er sr q fun v H1 ι1 s1 d a1 er1 sr1 r1 q1 => tO_step er1 sr1 q1 fun l H2 ι2 s2 a2 er2 sr2 q2 => tO_step er2 sr2 q2 fun h H3 ι3 s3 a3 er3 sr3 q3 => by
    cases ec : cutD d l h s3 with
    | none => rw [ec] at q3; exact (q3 : False).elim
    | some d' =>
      rw [ec] at q3
      exact ⟨ι3, s3, d, d', sr3, (r1.adv a2 sr1.own).adv a3 sr2.own, ec, fun z H' a st r => q3 z H' ι3 a st r⟩
end

/-! ### built-in functions -/
abbrev Bf := List D → Sto → Option D
def rB (K : PySem.W.Frag) (mg : Str → Option Value) (g : Bf) : List V → Hp → VK → Prop := fun vs H Q => ∃ ι s ds d, StR K mg H ι s ∧ Reps K mg H ι ds vs ∧ g ds s = some d ∧ ∀ z H', Adv ι H ι H' → StR K mg H' ι s → Rep K mg H' ι d z → Q z H'
abbrev BfR (X : Cx) (f : Value) (g : Bf) : Prop := CallR X f (rB X.K X.mg g)
def dB (g : Bf) (fa : Exps) : Exp := fun ρ s => (fa ρ s).bind fun ds s1 => lift (g ds s1) s1
section
variable {X : Cx} {W : WX} {e : Expr} {es : List Expr} {fa : Exps} {p pos : Pos} {g : Bf}
theorem tB_ok {K : PySem.W.Frag} {mg : Str → Option Value} {σ : L2.St} {H : Hp} {Q : VK} (h : tD K mg W (dB g fa) σ H Q) : tCB (rB K mg g) (tDA K mg W fa) σ H Q := by
  obtain ⟨ι, ρ, s, er, sr, q⟩ := h
  refine tDA_step er sr q fun vs H1 ι1 s1 ds er1 sr1 r1 q1 => ?_
  cases ec : g ds s1 with
  | none => rw [ec] at q1; exact (q1 : False).elim
  | some d' =>
    rw [ec] at q1
    exact ⟨ι1, s1, ds, d', sr1, r1, ec, fun z H' a st r => q1 z H' ι1 a st r⟩
theorem de_bf {x : Str} {id : String} (hc : BfR X (.builtin id) g) (hv : bootBuiltins x = some (.builtin id)) (hm : X.mg x = none) (hg : Gl X x) (ha : DA X W (e :: es) fa) (hn : x ≠ "__name__" := by decide) (hdb : (x == ("__debug__" : Str)) = false := by decide)
    (he : starEach (e :: es) X.env = (false, eval e X.env) :: starEach es X.env := by rfl) (hpl : (backTo pos (starEach es X.env)).any (·.1) = false := by rfl) : DE X W (.Call (.Name x p) (e :: es) [] pos) (dB g fa) := pe_imp (pe_callB hc hg hm hv ha hn hdb he hpl) fun _ _ _ h => tB_ok h
theorem de_ty {x : Str} {T : String} (hc : BfR X (.type T) g) (hv : bootBuiltins x = some (.type T)) (hm : X.mg x = none) (hg : Gl X x) (ha : DA X W (e :: es) fa) (hn : x ≠ "__name__" := by decide) (hdb : (x == ("__debug__" : Str)) = false := by decide)
    (he : starEach (e :: es) X.env = (false, eval e X.env) :: starEach es X.env := by rfl) (hpl : (backTo pos (starEach es X.env)).any (·.1) = false := by rfl) : DE X W (.Call (.Name x p) (e :: es) [] pos) (dB g fa) := pe_imp (pe_callTy hc hg hm hv ha hn hdb he hpl) fun _ _ _ h => tB_ok h
end
theorem Reps.one {K : PySem.W.Frag} {mg : Str → Option Value} {ι : Io} {H : Hp} {d : D} {vs : List V} (r : Reps K mg H ι [d] vs) : ∃ v, vs = [v] ∧ Rep K mg H ι d v := by
  cases r with
  | cons r t => cases t; exact ⟨_, rfl, r⟩
theorem Reps.two {K : PySem.W.Frag} {mg : Str → Option Value} {ι : Io} {H : Hp} {d e : D} {vs : List V} (r : Reps K mg H ι [d, e] vs) : ∃ v w, vs = [v, w] ∧ Rep K mg H ι d v ∧ Rep K mg H ι e w := by
  cases r with
  | cons r t =>
    obtain ⟨w, e, q⟩ := t.one
    subst e
    exact ⟨_, w, rfl, r, q⟩
def lenD : Bf := fun ds s => match ds with
  | [.str a] => some (.int a.length)
  | [x] => (sqA s x).map fun xs => .int xs.length
  | _ => none
def absD : Bf := fun ds _ => match ds with
  | [.int i] => some (.int (if i < 0 then -i else i))
  | _ => none
def intD : Bf := fun ds _ => match ds with
  | [.int i] => some (.int i)
  | [.bl b] => some (.int (if b then 1 else 0))
  | _ => none
def blsD : List D → Option (List Bool)
  | [] => some []
  | .bl b :: r => (blsD r).map (b :: ·)
  | _ :: _ => none
def intsD : List D → Option (List Int)
  | [] => some []
  | .int b :: r => (intsD r).map (b :: ·)
  | _ :: _ => none
def strsD : List D → Option (List (List Nat))
  | [] => some []
  | .str b :: r => (strsD r).map (b :: ·)
  | _ :: _ => none
def allD : Bf := fun ds s => match ds with
  | [x] => match sqL s x with
    | some xs => (blsD xs).map fun bs => .bl (bs.all id)
    | none => none
  | _ => none
def anyD : Bf := fun ds s => match ds with
  | [x] => match sqL s x with
    | some xs => (blsD xs).map fun bs => .bl (bs.any id)
    | none => none
  | _ => none
def sumD : Bf := fun ds s => match ds with
  | [x] => match sqL s x with
    | some xs => (intsD xs).map fun bs => .int bs.sum
    | none => none
  | _ => none
def tupleD : Bf := fun ds s => match ds with
  | [x] => (sqA s x).map .tup
  | _ => none
def listD : Bf := fun ds s => match ds with
  | [.fzl xs] => some (.lst xs)
  | [x] => (sqA s x).map .lst
  | _ => none
section
variable {X : Cx}
theorem bls_of {K : PySem.W.Frag} {mg : Str → Option Value} {ι : Io} {H : Hp} : ∀ {xs : List D} {vs : List V} {bs : List Bool}, Reps K mg H ι xs vs → blsD xs = some bs → vs = bs.map V.bl
  | [], _, bs, r, h => by cases r; cases h; rfl
  | x :: xs, _, bs, r, h => by
    cases r with
    | cons r t =>
      cases x with
      | bl b =>
        cases r
        cases e : blsD xs with
        | none => rw [blsD, e] at h; cases h
        | some cs => rw [blsD, e] at h; cases h; rw [bls_of t e]; rfl
      | _ => simp [blsD] at h
theorem ints_of {K : PySem.W.Frag} {mg : Str → Option Value} {ι : Io} {H : Hp} : ∀ {xs : List D} {vs : List V} {bs : List Int}, Reps K mg H ι xs vs → intsD xs = some bs → vs = bs.map V.int
  | [], _, bs, r, h => by cases r; cases h; rfl
  | x :: xs, _, bs, r, h => by
    cases r with
    | cons r t =>
      cases x with
      | int b =>
        cases r
        cases e : intsD xs with
        | none => rw [intsD, e] at h; cases h
        | some cs => rw [intsD, e] at h; cases h; rw [ints_of t e]; rfl
      | _ => simp [intsD] at h
theorem strs_of {K : PySem.W.Frag} {mg : Str → Option Value} {ι : Io} {H : Hp} : ∀ {xs : List D} {vs : List V} {bs : List (List Nat)}, Reps K mg H ι xs vs → strsD xs = some bs → vs = (bs.map fun b => (⟨b.toArray⟩ : Str)).map V.str
  | [], _, bs, r, h => by cases r; cases h; rfl
  | x :: xs, _, bs, r, h => by
    cases r with
    | cons r t =>
      cases x with
      | str b =>
        cases r
        cases e : strsD xs with
        | none => rw [strsD, e] at h; cases h
        | some cs => rw [strsD, e] at h; cases h; rw [strs_of t e]; rfl
      | _ => simp [strsD] at h
theorem b_len : BfR X (.builtin "len") lenD := by
  intro pins s σ H xs us Q I r ⟨ι, st, ds, d, sr, rr, e, q⟩
  unfold lenD at e
  split at e
  · rename_i a
    obtain ⟨v, rfl, r1⟩ := rr.one
    cases e
    cases r1 with
    | str _ hl =>
      refine L2.call_len pins s σ H _ us Q I r ⟨_, a.length, rfl, ⟨by rw [sizeL]; show (List.toArray a).size ≤ _; simpa using hl, ?_⟩, q _ H (Adv.refl _ _) sr (.int _)⟩
      show _ = (List.toArray a).size
      simp
  · obtain ⟨v, rfl, r1⟩ := rr.one
    rename_i x _
    cases ea : sqA st x with
    | none => rw [ea] at e; cases e
    | some ys =>
      rw [ea] at e
      cases e
      obtain ⟨a, vs, rfl, hs, rr⟩ := rep_sqA sr r1 ea
      refine L2.call_len pins s σ H _ us Q I r ⟨_, ys.length, rfl, ?_, q _ H (Adv.refl _ _) sr (.int _)⟩
      rcases hs with hs | hs
      · exact .inl ⟨vs, hs, rr.length⟩
      · exact .inr ⟨vs, hs, rr.length⟩
  · cases e
theorem b_abs : BfR X (.builtin "abs") absD := by
  intro pins s σ H xs us Q I r ⟨ι, st, ds, d, sr, rr, e, q⟩
  unfold absD at e
  split at e
  · obtain ⟨v, rfl, r1⟩ := rr.one
    cases e; cases r1
    exact call_abs pins s σ H _ us Q I r ⟨_, rfl, q _ H (Adv.refl _ _) sr (.int _)⟩
  · cases e
theorem b_int : BfR X (.type "int") intD := by
  intro pins s σ H xs us Q I r ⟨ι, st, ds, d, sr, rr, e, q⟩
  unfold intD at e
  split at e
  · obtain ⟨v, rfl, r1⟩ := rr.one
    cases e; cases r1
    exact call_int1 pins s σ H _ us Q I r (.inl ⟨_, rfl, q _ H (Adv.refl _ _) sr (.int _)⟩)
  · obtain ⟨v, rfl, r1⟩ := rr.one
    cases e; cases r1
    exact call_int1 pins s σ H _ us Q I r (.inr ⟨_, rfl, q _ H (Adv.refl _ _) sr (.int _)⟩)
  · cases e
theorem b_all (hc : X.calm = true) : BfR X (.builtin "all") allD := by
  intro pins s σ H xs us Q I r ⟨ι, st, ds, d, sr, rr, e, q⟩
  unfold allD at e
  split at e
  · obtain ⟨v, rfl, r1⟩ := rr.one
    split at e
    · rename_i ys ea
      cases eb : blsD ys with
      | none => rw [eb] at e; cases e
      | some bs =>
        rw [eb] at e; cases e
        obtain ⟨a, vs, rfl, ha, rr⟩ := rep_sqL sr r1 ea
        exact cr_all hc pins s σ H _ us Q I r ⟨a, bs, rfl, by rw [← bls_of rr eb]; exact SqL.of ha, q _ H (Adv.refl _ _) sr (.bl _)⟩
    · cases e
  · cases e
theorem b_any (hc : X.calm = true) : BfR X (.builtin "any") anyD := by
  intro pins s σ H xs us Q I r ⟨ι, st, ds, d, sr, rr, e, q⟩
  unfold anyD at e
  split at e
  · obtain ⟨v, rfl, r1⟩ := rr.one
    split at e
    · rename_i ys ea
      cases eb : blsD ys with
      | none => rw [eb] at e; cases e
      | some bs =>
        rw [eb] at e; cases e
        obtain ⟨a, vs, rfl, ha, rr⟩ := rep_sqL sr r1 ea
        exact cr_any hc pins s σ H _ us Q I r ⟨a, bs, rfl, by rw [← bls_of rr eb]; exact SqL.of ha, q _ H (Adv.refl _ _) sr (.bl _)⟩
    · cases e
  · cases e
theorem b_sum (hc : X.calm = true) : BfR X (.builtin "sum") sumD := by
  intro pins s σ H xs us Q I r ⟨ι, st, ds, d, sr, rr, e, q⟩
  unfold sumD at e
  split at e
  · obtain ⟨v, rfl, r1⟩ := rr.one
    split at e
    · rename_i ys ea
      cases eb : intsD ys with
      | none => rw [eb] at e; cases e
      | some bs =>
        rw [eb] at e; cases e
        obtain ⟨a, vs, rfl, ha, rr⟩ := rep_sqL sr r1 ea
        exact cr_sum hc pins s σ H _ us Q I r ⟨a, bs, rfl, by rw [← ints_of rr eb]; exact SqL.of ha, q _ H (Adv.refl _ _) sr (.int _)⟩
    · cases e
  · cases e
theorem b_tuple : BfR X (.type "tuple") tupleD := by
  intro pins s σ H xs us Q I r ⟨ι, st, ds, d, sr, rr, e, q⟩
  unfold tupleD at e
  split at e
  · rename_i x
    obtain ⟨v, rfl, r1⟩ := rr.one
    cases ea : sqA st x with
    | none => rw [ea] at e; cases e
    | some ys =>
      rw [ea] at e
      cases e
      obtain ⟨a, vs, rfl, hs, rr⟩ := rep_sqA sr r1 ea
      rcases hs with hs | hs
      · exact call_tuple_of pins s σ H _ us Q I r ⟨a, vs, rfl, .inl ⟨hs, fun l hl => q _ _ (adv_upd ι hl) (sr.upd hl) (rep_tup' sr rr hl)⟩⟩
      · exact call_tuple_of pins s σ H _ us Q I r ⟨a, vs, rfl, .inr ⟨hs, q _ H (Adv.refl _ _) sr (.tup hs rr)⟩⟩
  · cases e
theorem b_list : BfR X (.type "list") listD := by
  intro pins s σ H xs us Q I r ⟨ι, st, ds, d, sr, rr, e, q⟩
  unfold listD at e
  split at e
  · obtain ⟨v, rfl, r1⟩ := rr.one
    cases e
    cases r1 with
    | @fzl a vs ds hk r2 => exact call_list_of pins s σ H _ us Q I r ⟨a, vs, rfl, .inl (kon_sq hk), fun l hl => q _ _ (adv_upd ι hl) (sr.upd hl) (rep_lst' sr r2 hl)⟩
  · rename_i x _
    obtain ⟨v, rfl, r1⟩ := rr.one
    cases ea : sqA st x with
    | none => rw [ea] at e; cases e
    | some ys =>
      rw [ea] at e
      cases e
      obtain ⟨a, vs, rfl, hs, rr⟩ := rep_sqA sr r1 ea
      exact call_list_of pins s σ H _ us Q I r ⟨a, vs, rfl, hs, fun l hl => q _ _ (adv_upd ι hl) (sr.upd hl) (rep_lst' sr rr hl)⟩
  · cases e
/-- isinstance(x, T): T a built-in class by its name -/
def tyN (s : Sto) (d : D) : Option String := match d with
  | .non => some "NoneType"
  | .bl _ => some "bool"
  | .int _ => some "int"
  | .str _ => some "str"
  | .tup _ => some "tuple"
  | .lst _ => some "list"
  | .obj n => match s[n]? with
    | some (.lst _) => some "list"
    | _ => none
  | _ => none
def isiB (a b : String) : Bool := a == b || (a == "bool" && b == "int")
def isiT (b : String) : Bool := b == "bool" || b == "int" || b == "str" || b == "tuple" || b == "list" || b == "dict"
def isiD : Bf := fun ds s => match ds with
  | [x, .ty T] => if isiT T = true then (tyN s x).map fun t => .bl (isiB t T) else none
  | _ => none
theorem tyX_of {K : PySem.W.Frag} {mg : Str → Option Value} {ι : Io} {H : Hp} {st : Sto} (sr : StR K mg H ι st) {d : D} {v : V} {t : String} (r : Rep K mg H ι d v) (e : tyN st d = some t) : TyX K H v (.type t) := by
  cases r with
  | non => cases e; exact .base .non
  | bl b => cases e; exact .base (.bl b)
  | int i => cases e; exact .base (.int i)
  | str s h => cases e; exact .base (.str _)
  | tup hq r =>
    cases e
    rcases hq with (h | ⟨o, h⟩) | ⟨o, its, n, h1, h2, _⟩
    · exact .base (.tup h)
    · exact .fTuple h
    · exact .kTuple h1 h2
  | lst hq hf r => cases e; exact .base (.lst hq)
  | @obj n a hn =>
    simp only [tyN] at e
    cases es : st[n]? with
    | none => rw [es] at e; cases e
    | some o =>
      cases o with
      | lst xs =>
        rw [es] at e
        cases e
        obtain ⟨vs, h, _⟩ := sr.at_ n a _ hn es
        exact .base (.lst h)
      | dic t ks xs =>
        rw [es] at e
        cases e
  | fzl _ _ => cases e
  | fn _ => cases e
  | ty _ => cases e
  | dct _ _ _ => cases e
  | dicK _ _ _ _ => cases e
  | dicT _ _ _ _ => cases e
theorem isi_tab : ∀ t ∈ ["NoneType", "bool", "int", "str", "tuple", "list"], ∀ T ∈ ["bool", "int", "str", "tuple", "list", "dict"], kitB t T = some (isiB t T) := by decide +kernel
theorem b_isi : BfR X (.builtin "isinstance") isiD := by
  intro pins s σ H xs us Q I r ⟨ι, st, ds, d, sr, rr, e, q⟩
  unfold isiD at e
  split at e
  · rename_i x T
    obtain ⟨v, w, rfl, r1, r2⟩ := rr.two
    split at e
    · rename_i hT
      cases et : tyN st x with
      | none => rw [et] at e; cases e
      | some t =>
        rw [et] at e; cases e
        cases r2
        have hT' : T ∈ ["bool", "int", "str", "tuple", "list", "dict"] := by
          simp only [isiT, Bool.or_eq_true, beq_iff_eq] at hT
          simp only [List.mem_cons, List.not_mem_nil, or_false]
          rcases hT with ((((h | h) | h) | h) | h) | h <;> simp [h]
        have ht' : t ∈ ["NoneType", "bool", "int", "str", "tuple", "list"] := by
          unfold tyN at et
          split at et
          any_goals (cases et; simp)
          · split at et
            · cases et; simp
            · cases et
          · cases et
        exact call_isi pins s σ H _ us Q I r ⟨v, .ty T, .type t, .type T, isiB t T, rfl, .ty T, tyX_of sr r1 et, kit_ty (isi_tab t ht' T hT'), q _ H (Adv.refl _ _) sr (.bl _)⟩
    · cases e
  · cases e
end
/-- a built-in class by its name -/
theorem de_tyName {X : Cx} {W : WX} {x : Str} {T : String} {pos : Pos} (hg : Gl X x) (hm : X.mg x = none) (hv : bootBuiltins x = some (.type T)) (hn : x ≠ "__name__" := by decide) (hd : (x == ("__debug__" : Str)) = false := by decide) : DE X W (.Name x pos) (dC (.ty T)) :=
  de_pure (pe_bltn (v := .ty T) hg hm hv rfl hn hd) fun _ _ => .ty T
end Z

set_option Elab.async false
set_option linter.all false
set_option maxRecDepth 100000
set_option maxHeartbeats 2000000
namespace Z
open PySem PySem.Spec PyProof.Rows L2

/-! ### what a for walks -/
def itemsD (s : Sto) (d : D) : Option (List D × Grd) := match d with
  | .lst xs => some (xs, [])
  | .tup xs => some (xs, [])
  | .str a => some (a.map fun c => .str [c], [])
  | .obj n => match s[n]? with
    | some (.lst xs) => some (xs, [(n, xs)])
    | _ => none
  | _ => none
def iSeq (fe : Exp) : Itr_ := fun ρ s => (fe ρ s).bind fun d s1 => lift (itemsD s1 d) s1
section
variable {K : PySem.W.Frag} {mg : Str → Option Value} {ι : Io} {H : Hp} {st : Sto}
/-- a list walked: frozen, or an object of ours (guarded) -/
theorem lst_stays {d : D} {v : V} {xs : List D} {g : Grd} (sr : StR K mg H ι st) (r : Rep K mg H ι d v) (e : sqL st d = some xs) (e2 : itemsD st d = some (xs, g)) : ∃ a vs, v = .ref a ∧ SqL K H a vs ∧
    ∀ ι2 H2, Adv ι H ι2 H2 → Own H2 ι2 → GrdR K mg g ι2 H2 → ∃ ws, H2 a = some (.lst ws) ∧ Reps K mg H2 ι2 xs ws := by
  cases r with
  | @lst a vs ds hq hf r =>
    simp only [sqL, Option.some.injEq] at e
    subst e
    exact ⟨a, vs, rfl, SqL.of hq, fun ι2 H2 ad ow _ => ⟨vs, ad.keep _ _ hq hf.1, r.adv ad sr.own⟩⟩
  | @obj n a hn =>
    simp only [itemsD] at e2
    have hl : n < st.length := by rw [← sr.len]; exact (List.getElem?_eq_some_iff.mp hn).1
    have e0 := List.getElem?_eq_getElem hl
    cases es : st[n] with
    | lst ys =>
      rw [es] at e0
      obtain ⟨vs, h, _⟩ := sr.at_ n a _ hn e0
      rw [e0] at e2
      simp only [Option.some.injEq, Prod.mk.injEq] at e2
      obtain ⟨e3, e4⟩ := e2
      subst e3 e4
      refine ⟨a, vs, rfl, SqL.of h, fun ι2 H2 ad ow g => ?_⟩
      obtain ⟨b, ws, h1, h2, h3⟩ := g (n, ys) List.mem_cons_self
      have h4 := ad.get hn
      rw [h1] at h4
      cases h4
      exact ⟨ws, h2, h3⟩
    | dic t ks ys =>
      rw [es] at e0
      simp only [sqL, e0] at e
      cases e
  | _ => simp [sqL] at e
theorem walk_lst {a : Addr} {xs : List D} {g : Grd} (h : ∀ ι2 H2, Adv ι H ι2 H2 → Own H2 ι2 → GrdR K mg g ι2 H2 → ∃ ws, H2 a = some (.lst ws) ∧ Reps K mg H2 ι2 xs ws) : WalkD K mg (Itl K a) xs g ι H := fun ι2 H2 ad ow gr => by
  obtain ⟨ws, h1, h2⟩ := h ι2 H2 ad ow gr
  have hl := h2.length
  refine ⟨fun i hi => ⟨ws, ws[i]'(by omega), SqL.of h1, by simp [show i < ws.length by omega]⟩, ⟨ws, SqL.of h1, by omega⟩, fun i x H3 hi hy => ?_⟩
  obtain ⟨e, hx⟩ := hy
  subst e
  obtain ⟨d, e1, e2⟩ := h2.getV (hx ws (SqL.of h1))
  exact ⟨fun _ _ q => q, d, e1, e2⟩
theorem walk_tupD {a : Addr} {xs : List D} {vs : List V} (sr : StR K mg H ι st) (hq : SqT K H a vs) (r : Reps K mg H ι xs vs) : WalkD K mg (Itt K a) xs [] ι H := fun ι2 H2 ad ow gr => by
  have h1 := sqT_adv ad sr.own hq
  have h2 := r.adv ad sr.own
  have hl := h2.length
  refine ⟨fun i hi => ⟨vs, vs[i]'(by omega), h1, by simp [show i < vs.length by omega]⟩, ⟨vs, h1, by omega⟩, fun i x H3 hi hy => ?_⟩
  obtain ⟨e, hx⟩ := hy
  subst e
  obtain ⟨d, e1, e2⟩ := h2.getV (hx vs h1)
  exact ⟨fun _ _ q => q, d, e1, e2⟩
theorem walk_strD {a : List Nat} : WalkD K mg (Its ⟨a.toArray⟩) (a.map fun c => .str [c]) [] ι H := fun ι2 H2 ad ow gr => by
  have hsz : (⟨a.toArray⟩ : Str).cps.size = a.length := by simp
  refine ⟨fun i hi => by show i < _; rw [hsz]; simpa using hi, by show _ ≤ _; rw [hsz]; simp, fun i x H3 hi hy => ?_⟩
  obtain ⟨e, c, hc, hx⟩ := hy
  subst e hx
  have hc' : a[i]? = some c := by simpa using hc
  exact ⟨fun _ _ q => q, .str [c], by rw [List.getElem?_map, hc']; rfl, Rep.str [c] (by simp)⟩
theorem walk_rngD {lo : Int} {n : Nat} : WalkD K mg (Itr lo n) ((List.range n).map fun (i : Nat) => .int (lo + i)) [] ι H := fun ι2 H2 ad ow gr => by
  refine ⟨fun i hi => by show i < n; simpa using hi, by show n ≤ _; simp, fun i x H3 hi hy => ?_⟩
  obtain ⟨e, hx⟩ := hy
  subst e hx
  have hi' : i < n := by simpa using hi
  exact ⟨fun _ _ q => q, .int (lo + i), by rw [List.getElem?_map, List.getElem?_range hi']; rfl, .int _⟩
theorem walk_rngC {lo c : Int} {n : Nat} : WalkD K mg (Itc lo c n) ((List.range n).map fun (i : Nat) => .int (lo + (i : Nat) * c)) [] ι H := fun ι2 H2 ad ow gr => by
  refine ⟨fun i hi => by show i < n; simpa using hi, by show n ≤ _; simp, fun i x H3 hi hy => ?_⟩
  obtain ⟨e, hx⟩ := hy
  subst e hx
  have hi' : i < n := by simpa using hi
  exact ⟨fun _ _ q => q, .int (lo + (i : Nat) * c), by rw [List.getElem?_map, List.getElem?_range hi']; rfl, .int _⟩
theorem pair_new {H2 : Hp} {ι2 : Io} {T : Addr} {x y : V} {d e : D} (ow : Own H2 ι2) (hT : H2 T = none) (r1 : Rep K mg H2 ι2 d x) (r2 : Rep K mg H2 ι2 e y) : Rep K mg (upd H2 T (.tup [x, y])) ι2 (.tup [d, e]) (.ref T) :=
  .tup (SqT.of upd_same) (.cons (r1.adv (adv_upd ι2 hT) ow) (.cons (r2.adv (adv_upd ι2 hT) ow) .nil))
def enumL (xs : List D) : List D := (List.range xs.length).zipWith (fun (i : Nat) x => .tup [.int i, x]) xs
theorem enumL_get (xs : List D) (i : Nat) (d : D) (h : xs[i]? = some d) : (enumL xs)[i]? = some (.tup [.int i, d]) := by
  have hi := (List.getElem?_eq_some_iff.mp h).1
  unfold enumL
  rw [List.getElem?_zipWith, List.getElem?_range hi, h]
theorem walk_enumD {a : Addr} {xs : List D} {g : Grd} (h : ∀ ι2 H2, Adv ι H ι2 H2 → Own H2 ι2 → GrdR K mg g ι2 H2 → ∃ ws, H2 a = some (.lst ws) ∧ Reps K mg H2 ι2 xs ws) : WalkD K mg (Ite K a) (enumL xs) g ι H := fun ι2 H2 ad ow gr => by
  obtain ⟨ws, h1, h2⟩ := h ι2 H2 ad ow gr
  have hl := h2.length
  have hle : (enumL xs).length = xs.length := by unfold enumL; simp
  refine ⟨fun i hi => ⟨ws, ws[i]'(by omega), SqL.of h1, by simp [show i < ws.length by omega]⟩, ⟨ws, SqL.of h1, by omega⟩, fun i x H3 hi hy => ?_⟩
  obtain ⟨T, y, e1, hT, e3, hx⟩ := hy
  subst e1 e3
  obtain ⟨d, e1, e2⟩ := h2.getV (hx ws (SqL.of h1))
  exact ⟨fun b o q => by rw [upd_ne (ne_of_none q hT)]; exact q, _, enumL_get xs i d e1, pair_new ow hT (.int _) e2⟩
def zipL (xs ys : List D) : List D := xs.zipWith (fun x y => .tup [x, y]) ys
theorem walk_zipL {a b : Addr} {xs ys : List D} {g g' : Grd} (h : ∀ ι2 H2, Adv ι H ι2 H2 → Own H2 ι2 → GrdR K mg g ι2 H2 → ∃ ws, H2 a = some (.lst ws) ∧ Reps K mg H2 ι2 xs ws)
    (h' : ∀ ι2 H2, Adv ι H ι2 H2 → Own H2 ι2 → GrdR K mg g' ι2 H2 → ∃ ws, H2 b = some (.lst ws) ∧ Reps K mg H2 ι2 ys ws) : WalkD K mg (Itz K a b) (zipL xs ys) (g ++ g') ι H := fun ι2 H2 ad ow gr => by
  obtain ⟨ws, h1, h2⟩ := h ι2 H2 ad ow fun p hp => gr p (List.mem_append_left _ hp)
  obtain ⟨zs, h3, h4⟩ := h' ι2 H2 ad ow fun p hp => gr p (List.mem_append_right _ hp)
  have l1 := h2.length
  have l2 := h4.length
  have lz : (zipL xs ys).length = min xs.length ys.length := by unfold zipL; simp
  refine ⟨fun i hi => ⟨ws, zs, ws[i]'(by omega), zs[i]'(by omega), SqL.of h1, SqL.of h3, by simp [show i < ws.length by omega], by simp [show i < zs.length by omega]⟩, ⟨ws, zs, SqL.of h1, SqL.of h3, by omega⟩, fun i x H3 hi hy => ?_⟩
  obtain ⟨T, y, z, e1, hT, e3, hx, hz⟩ := hy
  subst e1 e3
  obtain ⟨d, e1, e2⟩ := h2.getV (hx ws (SqL.of h1))
  obtain ⟨d', e3, e4⟩ := h4.getV (hz zs (SqL.of h3))
  refine ⟨fun b o q => by rw [upd_ne (ne_of_none q hT)]; exact q, .tup [d, d'], ?_, pair_new ow hT e2 e4⟩
  unfold zipL
  rw [List.getElem?_zipWith, e1, e3]
theorem walk_zipT {a b : Addr} {xs ys : List D} {vs ws : List V} (sr : StR K mg H ι st) (hq : SqT K H a vs) (r : Reps K mg H ι xs vs) (hq' : SqT K H b ws) (r' : Reps K mg H ι ys ws) : WalkD K mg (RZ.ItzT K a b) (zipL xs ys) [] ι H := fun ι2 H2 ad ow gr => by
  have h1 := sqT_adv ad sr.own hq
  have h2 := r.adv ad sr.own
  have h3 := sqT_adv ad sr.own hq'
  have h4 := r'.adv ad sr.own
  have l1 := h2.length
  have l2 := h4.length
  have lz : (zipL xs ys).length = min xs.length ys.length := by unfold zipL; simp
  refine ⟨fun i hi => ⟨vs, ws, vs[i]'(by omega), ws[i]'(by omega), h1, h3, by simp [show i < vs.length by omega], by simp [show i < ws.length by omega]⟩, ⟨vs, ws, h1, h3, by omega⟩, fun i x H3 hi hy => ?_⟩
  obtain ⟨T, y, z, e1, hT, e3, hx, hz⟩ := hy
  subst e1 e3
  obtain ⟨d, e1, e2⟩ := h2.getV (hx vs h1)
  obtain ⟨d', e3, e4⟩ := h4.getV (hz ws h3)
  refine ⟨fun b o q => by rw [upd_ne (ne_of_none q hT)]; exact q, .tup [d, d'], ?_, pair_new ow hT e2 e4⟩
  unfold zipL
  rw [List.getElem?_zipWith, e1, e3]
end
/-- kinds of what is walked, over one value -/
theorem sq_or_tup {d : D} {s : Sto} {xs : List D} {g : Grd} (h : itemsD s d = some (xs, g)) : (sqL s d = some xs) ∨ (d = .tup xs ∧ g = []) ∨ ∃ a, d = .str a ∧ xs = a.map (fun c => .str [c]) ∧ g = [] := by
  unfold itemsD at h
  split at h
  · cases h; exact .inl rfl
  · cases h; exact .inr (.inl ⟨rfl, rfl⟩)
  · cases h; exact .inr (.inr ⟨_, rfl, rfl, rfl⟩)
  · split at h
    · rename_i n e
      cases h
      exact .inl (by simp only [sqL, *])
    · cases h
  · cases h
section
variable {X : Cx} {W : WX} {tg e : Expr} {fe : Exp}
theorem lift_exc {α : Type} {o : Option α} {s s' : Sto} {c : EC} : lift o s ≠ .exc c s' := by cases o <;> simp [lift]
theorem lift_ok {α : Type} {o : Option α} {s s' : Sto} {a : α} (h : lift o s = .ok a s') : o = some a ∧ s' = s := by
  cases o with
  | none => cases h
  | some b => cases h; exact ⟨rfl, rfl⟩
theorem di_seq (he : DE X W e fe) : DI X W tg e (iSeq fe) := by
  refine ⟨fun pins s σ H RR I h => ?_⟩
  have which : iList X.K (tD X.K X.mg W fe) σ H RR ∨ iTup X.K (tD X.K X.mg W fe) σ H RR ∨ iStr (tD X.K X.mg W fe) σ H RR := by
    obtain ⟨ι, ρ, st, er, sr, q⟩ := h
    simp only [iSeq] at q
    cases ee : fe ρ st with
    | no => rw [ee] at q; exact (q : False).elim
    | exc c s1 => rw [ee] at q; exact .inl ⟨ι, ρ, st, er, sr, by rw [ee]; exact q⟩
    | ok d s1 =>
      rw [ee] at q
      simp only [R.bind_ok] at q
      cases ei : itemsD s1 d with
      | none => rw [ei] at q; exact (q : False).elim
      | some p =>
        rw [ei] at q
        obtain ⟨xs, g⟩ := p
        rcases sq_or_tup ei with e2 | ⟨e3, e4⟩ | ⟨a, e3, e4, e5⟩
        · refine .inl ⟨ι, ρ, st, er, sr, ?_⟩
          rw [ee]
          intro v H1 ι1 a1 st1 r1
          obtain ⟨a, vs, rfl, hs, hw⟩ := lst_stays st1 r1 e2 ei
          exact ⟨a, rfl, ⟨vs, hs⟩, q _ H1 ι1 a1 st1 (walk_lst hw)⟩
        · subst e3 e4
          refine .inr (.inl ⟨ι, ρ, st, er, sr, ?_⟩)
          rw [ee]
          intro v H1 ι1 a1 st1 r1
          cases r1 with
          | @tup a vs _ hq rr => exact ⟨a, rfl, ⟨vs, hq⟩, q _ H1 ι1 a1 st1 (walk_tupD st1 hq rr)⟩
        · subst e3 e4 e5
          refine .inr (.inr ⟨ι, ρ, st, er, sr, ?_⟩)
          rw [ee]
          intro v H1 ι1 a1 st1 r1
          cases r1
          exact ⟨_, rfl, q _ H1 ι1 a1 st1 walk_strD⟩
  rcases which with z | z | z
  · exact (pi_list he).run pins s σ H RR I z
  · exact (pi_tup he).run pins s σ H RR I z
  · exact (pi_str he).run pins s σ H RR I z
end
/-! ranges, enumerate, zip -/
section
variable {X : Cx} {W : WX} {tg : Expr} {fa : Exps} {p pos tpos : Pos} {elts : List Expr} {kk : Nat}
def smI (j : Int) : Bool := match j with
  | .ofNat n => Nat.ble n 4611686018427387903
  | .negSucc n => Nat.ble n 4611686018427387903
theorem smI_iff (j : Int) : smI j = true ↔ -4611686018427387904 ≤ j ∧ j < 4611686018427387904 := by
  cases j with
  | ofNat n =>
    show Nat.ble n 4611686018427387903 = true ↔ _
    rw [Nat.ble_eq]
    constructor
    · intro h; constructor <;> (simp only [Int.ofNat_eq_natCast]; omega)
    · intro h; have := h.2; simp only [Int.ofNat_eq_natCast] at this; omega
  | negSucc n =>
    show Nat.ble n 4611686018427387903 = true ↔ _
    rw [Nat.ble_eq]
    constructor
    · intro h; constructor <;> omega
    · intro h; have := h.1; omega
def rng1A (ds : List D) (s : Sto) : Option (List D × Grd) := match ds with
  | [.int j] => if smI j = true then some ((List.range j.toNat).map fun (i : Nat) => .int (0 + i), []) else none
  | _ => none
def rng2A (ds : List D) (s : Sto) : Option (List D × Grd) := match ds with
  | [.int i, .int j] => if smI i = true ∧ smI j = true then some ((List.range (j - i).toNat).map fun (k : Nat) => .int (i + k), []) else none
  | _ => none
theorem smI_of {j : Int} (h : smI j = true) : -(2 ^ 62) ≤ j ∧ j < 2 ^ 62 := by
  rw [smI_iff] at h
  omega
def iA (g : List D → Sto → Option (List D × Grd)) (fa : Exps) : Itr_ := fun ρ s => (fa ρ s).bind fun ds s1 => lift (g ds s1) s1
theorem tIA_step {K : PySem.W.Frag} {mg : Str → Option Value} {σ : L2.St} {H : Hp} {RR : It → Hp → Prop} {g : List D → Sto → Option (List D × Grd)} {T : List V → Hp → Prop} (h : tI K mg W (iA g fa) σ H RR)
    (go : ∀ vs H1 ι1 s1 ds p, StR K mg H1 ι1 s1 → Reps K mg H1 ι1 ds vs → g ds s1 = some p → (∀ J, WalkD K mg J p.1 p.2 ι1 H1 → RR J H1) → T vs H1) : tDA K mg W fa σ H T := by
  obtain ⟨ι, ρ, s, er, sr, q⟩ := h
  refine ⟨ι, ρ, s, er, sr, ?_⟩
  simp only [iA] at q
  cases e : fa ρ s with
  | no => rw [e] at q; exact q
  | exc c s1 => rw [e] at q; exact q
  | ok ds s1 =>
    rw [e] at q
    intro vs H1 ι1 a1 st1 r1
    simp only [R.bind_ok] at q
    cases ek : g ds s1 with
    | none => rw [ek] at q; exact (q : False).elim
    | some p =>
      rw [ek] at q
      exact go vs H1 ι1 s1 ds p st1 r1 ek fun J w => q J H1 ι1 a1 st1 w
theorem di_range1 {a : Expr} (hm : X.mg "range" = none) (hg : Gl X "range") (ha : DA X W [a] fa) (hs : starEach [a] X.env = [(false, eval a X.env)] := by rfl) : DI X W tg (.Call (.Name "range" p) [a] [] pos) (iA rng1A fa) :=
  pi_imp (pi_range1 hg hm ha hs) fun σ H RR h => tIA_step h fun vs H1 ι1 s1 ds p sr r e go => by
    unfold rng1A at e
    split at e
    · split at e
      · rename_i hj
        cases e
        obtain ⟨v, rfl, r1⟩ := r.one
        cases r1
        obtain ⟨h1, h2⟩ := smI_of hj
        exact ⟨_, rfl, h1, h2, go _ walk_rngD⟩
      · cases e
    · cases e
theorem di_range2 {a b : Expr} (hm : X.mg "range" = none) (hg : Gl X "range") (ha : DA X W [a, b] fa) (hs : starEach [a, b] X.env = [(false, eval a X.env), (false, eval b X.env)] := by rfl) (hs2 : starEach [b] X.env = [(false, eval b X.env)] := by rfl) : DI X W tg (.Call (.Name "range" p) [a, b] [] pos) (iA rng2A fa) :=
  pi_imp (pi_range2 hg hm ha hs hs2) fun σ H RR h => tIA_step h fun vs H1 ι1 s1 ds p sr r e go => by
    unfold rng2A at e
    split at e
    · split at e
      · rename_i hj
        cases e
        obtain ⟨v, w, rfl, r1, r2⟩ := r.two
        cases r1; cases r2
        obtain ⟨h1, h2⟩ := smI_of hj.1
        obtain ⟨h3, h4⟩ := smI_of hj.2
        exact ⟨_, _, rfl, ⟨h1, h2, h3, h4⟩, go _ walk_rngD⟩
      · cases e
    · cases e
/-- enumerate(list) -/
def enumA (ds : List D) (s : Sto) : Option (List D × Grd) := match ds with
  | [d] => match sqL s d, itemsD s d with
    | some _, some (xs, g) => some (enumL xs, g)
    | _, _ => none
  | _ => none
theorem items_sqL {s : Sto} {d : D} {xs ys : List D} {g : Grd} (h : sqL s d = some xs) (h2 : itemsD s d = some (ys, g)) : ys = xs := by
  unfold sqL at h
  unfold itemsD at h2
  cases d <;> simp_all
  split at h <;> simp_all
theorem di_enum {a : Expr} (hm : X.mg "enumerate" = none) (hg : Gl X "enumerate") (ha : DA X W [a] fa) (hs : starEach [a] X.env = [(false, eval a X.env)] := by rfl) : DI X W (.Tuple elts kk tpos) (.Call (.Name "enumerate" p) [a] [] pos) (iA enumA fa) :=
  pi_imp (pi_enum hg hm ha hs) fun σ H RR h => tIA_step h fun vs H1 ι1 s1 ds p sr r e go => by
    unfold enumA at e
    split at e
    · split at e
      · rename_i h1 h2
        cases e
        obtain ⟨v, rfl, r1⟩ := r.one
        have := items_sqL h1 h2
        subst this
        obtain ⟨a, vs, rfl, hs, hw⟩ := lst_stays sr r1 h1 h2
        exact ⟨a, vs, rfl, hs, go _ (walk_enumD hw)⟩
      · cases e
    · cases e
/-- zip of two lists, of two tuples -/
def zipA (ds : List D) (s : Sto) : Option (List D × Grd) := match ds with
  | [.tup xs, .tup ys] => some (zipL xs ys, [])
  | [d, e] => match sqL s d, itemsD s d, sqL s e, itemsD s e with
    | some _, some (xs, g), some _, some (ys, g') => some (zipL xs ys, g ++ g')
    | _, _, _, _ => none
  | _ => none
theorem di_zip {a b : Expr} (hm : X.mg "zip" = none) (hg : Gl X "zip") (ha : DA X W [a, b] fa) (hs : starEach [a, b] X.env = (false, eval a X.env) :: starEach [b] X.env := by rfl) (hpl : (backTo pos (starEach [b] X.env)).any (·.1) = false := by rfl) : DI X W (.Tuple elts kk tpos) (.Call (.Name "zip" p) [a, b] [] pos) (iA zipA fa) :=
  pi_imp (RZ.pi_zipA hg hm ha hs hpl) fun σ H RR h => tIA_step h fun vs H1 ι1 s1 ds p sr r e go => by
    unfold zipA at e
    split at e
    · cases e
      obtain ⟨v, w, rfl, r1, r2⟩ := r.two
      cases r1 with
      | @tup a vs _ h1 q1 =>
        cases r2 with
        | @tup b ws _ h2 q2 => exact ⟨a, b, vs, ws, rfl, .inr ⟨h1, h2, go _ (walk_zipT sr h1 q1 h2 q2)⟩⟩
    · split at e
      · rename_i h1 h2 h3 h4
        cases e
        obtain ⟨v, w, rfl, r1, r2⟩ := r.two
        have := items_sqL h1 h2
        subst this
        have := items_sqL h3 h4
        subst this
        obtain ⟨a, vs, rfl, hs, hw⟩ := lst_stays sr r1 h1 h2
        obtain ⟨b, ws, rfl, hs', hw'⟩ := lst_stays sr r2 h3 h4
        exact ⟨a, b, vs, ws, rfl, .inl ⟨hs, hs', go _ (walk_zipL hw hw')⟩⟩
      · cases e
    · cases e
end
end Z

set_option Elab.async false
set_option linter.all false
set_option maxRecDepth 100000
set_option maxHeartbeats 2000000
namespace Z
open PySem PySem.Spec PyProof.Rows L2

/-! ### stores -/
/-- o[i] = d -/
def setD (o i d : D) (s : Sto) : Option Sto := match o, i with
  | .obj n, .int k => match s[n]? with
    | some (.lst xs) => (ixN xs.length k).map fun j => s.set n (.lst (xs.set j d))
    | _ => none
  | _, _ => none
def gSubD (fo fi : Exp) : Tg := fun d ρ s => match fo ρ s with
  | .ok o s1 => match fi ρ s1 with
    | .ok i s2 => (setD o i d s2).map fun s3 => (ρ, s3)
    | _ => none
  | _ => none
section
variable {X : Cx} {o i : Expr} {fo fi : Exp} {pos : Pos}
theorem dg_sub (ho : DE X W0 o fo) (hi : DE X W0 i fi) (ha : ∀ v, assign (.Subscript o i pos) X.env v = (do
      let ov ← holding [v] (eval o X.env)
      let iv ← holding [v, ov] (eval i X.env)
      standAt pos
      holding [v, ov, iv] (setItem ov iv v)
      release [v, ov, iv] []) := by intro _; rfl) : DG X (.Subscript o i pos) (gSubD fo fi) :=
  pg_imp (pg_sub ho hi set_list ha) fun v σ H Q ⟨ι, ρ, s, d, ρ', s', er, sr, r, e, q⟩ => by
    refine ⟨ι, ρ, s, er, sr, ?_⟩
    unfold gSubD at e
    cases e1 : fo ρ s with
    | no => rw [e1] at e; cases e
    | exc c s1 => rw [e1] at e; cases e
    | ok od s1 =>
      rw [e1] at e
      simp only at e
      intro ov H1 ι1 a1 sr1 r1
      refine ⟨ι1, ρ, s1, er.adv a1 sr.own, sr1, ?_⟩
      cases e2 : fi ρ s1 with
      | no => rw [e2] at e; cases e
      | exc c s2 => rw [e2] at e; cases e
      | ok id s2 =>
        rw [e2] at e
        simp only at e
        intro iv H2 ι2 a2 sr2 r2
        have ro := r1.adv a2 sr1.own
        have rd := (r.adv a1 sr.own).adv a2 sr1.own
        have er2 := (er.adv a1 sr.own).adv a2 sr1.own
        unfold setD at e
        split at e
        · rename_i n k
          split at e
          · rename_i xs es
            cases ej : ixN xs.length k with
            | none => rw [ej] at e; cases e
            | some j =>
              rw [ej] at e
              cases e
              cases r2
              cases ro with
              | @obj _ a hn =>
                obtain ⟨vs, h1, rr⟩ := sr2.at_ n a _ hn es
                obtain ⟨st, ad⟩ := sr2.set (vs := vs.set j v) hn (rr.set rd j)
                exact ⟨a, vs, k, j, rfl, rfl, h1, by rw [← rr.length]; exact ej, q _ _ ι2 ((a1.trans a2).trans ad) (er2.adv ad sr2.own) st⟩
          · cases e
        · cases e
end

/-! ### methods of built-in types -/
def tyD (T : String) (d : D) (s : Sto) : Bool := match d with
  | .str _ => T == "str"
  | .lst _ => T == "list"
  | .obj n => (match s[n]? with
    | some (.lst _) => T == "list"
    | some (.dic _ _ _) => T == "dict"
    | none => false)
  | _ => false
abbrev Mf := D → List D → Sto → Option (D × Sto)
def rM (K : PySem.W.Frag) (mg : Str → Option Value) (T : String) (g : Mf) : V → List V → Hp → VK → Prop := fun x vs H Q => ∃ ι s dx ds d s', StR K mg H ι s ∧ Rep K mg H ι dx x ∧ Reps K mg H ι ds vs ∧ True ∧ g dx ds s = some (d, s') ∧ ∀ z H', Adv ι H ι H' → StR K mg H' ι s' → Rep K mg H' ι d z → Q z H'
def mGo (r : Option (D × Sto)) : R D := match r with
  | some (d, s) => .ok d s
  | none => .no
def dM (T : String) (g : Mf) (fo : Exp) (fa : Exps) : Exp := fun ρ s => (fo ρ s).bind fun x s1 => if tyD T x s1 = true then (fa ρ s1).bind fun ds s2 => mGo (g x ds s2) else .no
abbrev MfR (X : Cx) (T id : String) (g : Mf) : Prop := MtR X id (rM X.K X.mg T g)
theorem tyV_of {K : PySem.W.Frag} {mg : Str → Option Value} {ι : Io} {H : Hp} {st : Sto} {T : String} {d : D} {v : V} (sr : StR K mg H ι st) (r : Rep K mg H ι d v) (h : tyD T d st = true) : tyV K T v H := by
  cases r with
  | str s hl => exact beq_iff_eq.mp h
  | lst hq hf r => exact .inl ⟨beq_iff_eq.mp h, _, SqL.of hq⟩
  | @obj n a hn =>
    simp only [tyD] at h
    cases es : st[n]? with
    | none => rw [es] at h; cases h
    | some o =>
      have z := sr.at_ n a _ hn es
      rw [es] at h
      cases o with
      | lst xs =>
        obtain ⟨vs, e, _⟩ := z
        exact .inl ⟨beq_iff_eq.mp h, _, SqL.of e⟩
      | dic t ks xs =>
        cases t with
        | false => obtain ⟨kvs, e, _, _⟩ := z; exact .inr (.inr (.inl ⟨beq_iff_eq.mp h, .inl ⟨_, e⟩⟩))
        | true => obtain ⟨kvs, e, _, _⟩ := z; exact .inr (.inr (.inl ⟨beq_iff_eq.mp h, .inr ⟨_, e⟩⟩))
  | _ => simp [tyD] at h
section
variable {X : Cx} {W : WX} {o e : Expr} {es : List Expr} {fo : Exp} {fa : Exps} {name : Str} {apos cpos : Pos} {T id : String} {g : Mf}
theorem de_bm (pa : PlainAttrs T) (slot : Slot T name id) (hty : typeOf (.builtin id) = pure (.type "method_descriptor")) (hm : MfR X T id g) (ho : DE X W o fo) (ha : DA X W (e :: es) fa)
    (hbase : attributeBase o name X.env (eval o X.env) = eval o X.env := by rfl)
    (hfew : ((backTo cpos (starEach (e :: es) X.env)).all (fun x => !x.1) && (backToKw cpos (keywordEach [] X.env)).all (fun x => x.1.isSome)
      && decide ((e :: es).length + ([] : List Keyword).length + (if ([] : List Keyword).isEmpty then 0 else 1) < 30)) = true := by rfl)
    (hline : (apos.endLine == cpos.line) = true := by rfl) (hs : starEach (e :: es) X.env = (false, eval e X.env) :: starEach es X.env := by rfl) (hplain : (backTo cpos (starEach es X.env)).any (·.1) = false := by rfl) :
    DE X W (.Call (.Attribute o name apos) (e :: es) [] cpos) (dM T g fo fa) :=
  pe_imp (pe_bm pa slot hty hm ho ha hbase hfew hline hs hplain) fun σ H Q ⟨ι, ρ, s, er, sr, q⟩ => tD_step er sr q fun v H1 ι1 s1 d a1 er1 sr1 r1 q1 => by
    by_cases hT : tyD T d s1 = true
    · rw [if_pos hT] at q1
      refine ⟨tyV_of sr1 r1 hT, ?_⟩
      refine ⟨ι1, ρ, s1, er1, sr1, ?_⟩
      cases ea : fa ρ s1 with
      | no => rw [ea] at q1; exact q1
      | exc c s2 => rw [ea] at q1; exact q1
      | ok ds s2 =>
        rw [ea] at q1
        intro vs H2 ι2 a2 sr2 r2
        simp only [R.bind_ok] at q1
        cases eg : g d ds s2 with
        | none => rw [eg] at q1; exact (q1 : False).elim
        | some p =>
          obtain ⟨d', s'⟩ := p
          rw [eg] at q1
          exact ⟨ι2, s2, d, ds, d', s', sr2, r1.adv a2 sr1.own, r2, trivial, eg, fun z H' a st r => q1 z H' ι2 (a2.trans a) st r⟩
    · rw [if_neg hT] at q1
      exact (q1 : False).elim
theorem de_bm0 (pa : PlainAttrs T) (slot : Slot T name id) (hty : typeOf (.builtin id) = pure (.type "method_descriptor")) (hm : MfR X T id g) (ho : DE X W o fo)
    (hbase : attributeBase o name X.env (eval o X.env) = eval o X.env := by rfl) (hline : (apos.endLine == cpos.line) = true := by rfl) : DE X W (.Call (.Attribute o name apos) [] [] cpos) (dM T g fo aNil) :=
  pe_imp (pe_bm0 pa slot hty hm ho hbase hline) fun σ H Q ⟨ι, ρ, s, er, sr, q⟩ => tD_step er sr q fun v H1 ι1 s1 d a1 er1 sr1 r1 q1 => by
    by_cases hT : tyD T d s1 = true
    · rw [if_pos hT] at q1
      refine ⟨tyV_of sr1 r1 hT, ?_⟩
      simp only [aNil, R.bind_ok] at q1
      cases eg : g d [] s1 with
      | none => rw [eg] at q1; exact (q1 : False).elim
      | some p =>
        obtain ⟨d', s'⟩ := p
        rw [eg] at q1
        exact ⟨ι1, s1, d, [], d', s', sr1, r1, .nil, trivial, eg, fun z H' a st r => q1 z H' ι1 a st r⟩
    · rw [if_neg hT] at q1
      exact (q1 : False).elim
end
def appD : Mf := fun x ds s => match x, ds with
  | .obj n, [d] => match s[n]? with
    | some (.lst xs) => if xs.length < 16777216 then some (.non, s.set n (.lst (xs ++ [d]))) else none
    | _ => none
  | _, _ => none
def popD : Mf := fun x ds s => match x, ds with
  | .obj n, [] => match s[n]? with
    | some (.lst xs) => (xs[xs.length - 1]?).map fun y => (y, s.set n (.lst xs.dropLast))
    | _ => none
  | _, _ => none
/-- a text's methods: texts in -/
def joinD : Mf := fun x ds s => match x, ds with
  | .str a, [d] => match sqA s d with
    | some xs => (match strsD xs with
      | some ys => if (ys.map (·.length)).sum + ys.length * a.length ≤ 16777216 then some (.str (List.intercalate a ys), s) else none
      | none => none)
    | none => none
  | _, _ => none
def countD : Mf := fun x ds s => match x, ds with
  | .str a, [.str [c]] => some (.int (a.count c), s)
  | _, _ => none
def findN (c : Nat) (a : List Nat) : Int := match a.findIdx? (· == c) with
  | some i => (i : Int)
  | none => -1
def findD : Mf := fun x ds s => match x, ds with
  | .str a, [.str [c]] => some (.int (findN c a), s)
  | _, _ => none
section
variable {X : Cx}
theorem Reps.nil_inv {K : PySem.W.Frag} {mg : Str → Option Value} {ι : Io} {H : Hp} {vs : List V} (r : Reps K mg H ι [] vs) : vs = [] := by cases r; rfl
theorem m_append : MfR X "list" "list.append" appD := by
  intro pins s σ H x xs v us Q I rx rxs ⟨ι, st, dx, ds, d, s', sr, r1, rr, hT, e, q⟩
  unfold appD at e
  split at e
  · rename_i n d0
    split at e
    · rename_i ys es
      split at e
      · rename_i hl
        cases e
        obtain ⟨w, rfl, r2⟩ := rr.one
        cases r1 with
        | @obj _ a hn =>
          obtain ⟨vs, h1, r3⟩ := sr.at_ n a _ hn es
          obtain ⟨st', ad⟩ := sr.set (vs := vs ++ [w]) hn (r3.append (.cons r2 .nil))
          exact mt_append pins s σ H _ _ v us Q I rx rxs ⟨a, vs, w, rfl, rfl, h1, by rw [sizeL, ← r3.length]; exact hl, q _ _ ad st' .non⟩
      · cases e
    · cases e
  · cases e
theorem m_pop : MfR X "list" "list.pop" popD := by
  intro pins s σ H x xs v us Q I rx rxs ⟨ι, st, dx, ds, d, s', sr, r1, rr, hT, e, q⟩
  unfold popD at e
  split at e
  · rename_i n
    split at e
    · rename_i ys es
      have := rr.nil_inv
      subst this
      cases ey : ys[ys.length - 1]? with
      | none => rw [ey] at e; cases e
      | some y =>
        rw [ey] at e
        cases e
        cases r1 with
        | @obj _ a hn =>
          obtain ⟨vs, h1, r3⟩ := sr.at_ n a _ hn es
          have e3 : ys.dropLast = ys.take (ys.length - 1) := List.dropLast_eq_take
          have e4 : vs.dropLast = vs.take (vs.length - 1) := List.dropLast_eq_take
          obtain ⟨w, h2, r4⟩ := r3.get ey
          rw [r3.length] at h2
          have r5 : Reps X.K X.mg H ι ys.dropLast vs.dropLast := by
            rw [e3, e4, ← r3.length]; exact r3.take _
          obtain ⟨st', ad⟩ := sr.set (vs := vs.dropLast) hn r5
          exact mt_pop pins s σ H _ _ v us Q I rx rxs ⟨a, vs, w, rfl, rfl, h1, h2, q _ _ ad st' (r4.adv ad sr.own)⟩
    · cases e
  · cases e
theorem cnt_count (c : Nat) : ∀ l : List Nat, PyProof.Rows.cnt c l = ((l.count c : Nat) : Int)
  | [] => rfl
  | n :: r => by
    rw [PyProof.Rows.cnt_cons, cnt_count c r, List.count_cons]
    by_cases h : n = c
    · simp [h]; omega
    · simp [h]
theorem m_count : MfR X "str" "str.count" countD := by
  intro pins s σ H x xs v us Q I rx rxs ⟨ι, st, dx, ds, d, s', sr, r1, rr, hT, e, q⟩
  unfold countD at e
  split at e
  · rename_i a c
    cases e
    obtain ⟨w, rfl, r2⟩ := rr.one
    cases r1; cases r2
    refine mt_count pins s σ H _ _ v us Q I rx rxs ⟨⟨a.toArray⟩, ⟨#[c]⟩, rfl, rfl, ?_⟩
    rw [PyProof.Rows.count_cnt, cnt_count]
    have e : (⟨a.toArray⟩ : Str).cps.toList = a := by simp
    rw [e]
    exact q _ H (Adv.refl _ _) sr (.int _)
  · cases e
theorem find_findN (a : List Nat) (c : Nat) : Txt.find ⟨a.toArray⟩ ⟨#[c]⟩ = findN c a := by
  have one : ∀ i, PySem.StrLaws.At (⟨a.toArray⟩ : Str) ⟨#[c]⟩ (⟨a.toArray⟩ : Str).length i ↔ a[i]? = some c := fun i => by
    have := PySem.StrLaws.subAt_one ⟨a.toArray⟩ c i
    simp only [List.getElem?_toArray] at this
    unfold PySem.StrLaws.At
    simpa using this
  unfold findN
  rcases PyProof.Rows.find_whole ⟨a.toArray⟩ ⟨#[c]⟩ with ⟨e, h⟩ | ⟨i, e, h1, h2⟩
  · rw [e]
    have : a.findIdx? (· == c) = none := by
      rw [List.findIdx?_eq_none_iff]
      intro x hx
      obtain ⟨i, hi⟩ := List.mem_iff_getElem?.mp hx
      cases hxc : x == c with
      | false => rfl
      | true =>
        have hxc : x = c := by simpa using hxc
        subst hxc
        exact absurd ((one i).mpr hi) (h i)
    rw [this]
  · rw [e]
    have : a.findIdx? (· == c) = some i := by
      rw [List.findIdx?_eq_some_iff_getElem]
      have hi := (one i).mp h1
      obtain ⟨hl, hc⟩ := List.getElem?_eq_some_iff.mp hi
      refine ⟨hl, by simp [hc], fun j hj => ?_⟩
      have := h2 j hj
      rw [one] at this
      intro z
      have hz : a[j] = c := by simpa using z
      exact this (by rw [List.getElem?_eq_getElem (by omega), hz])
    rw [this]
theorem m_find : MfR X "str" "str.find" findD := by
  intro pins s σ H x xs v us Q I rx rxs ⟨ι, st, dx, ds, d, s', sr, r1, rr, hT, e, q⟩
  unfold findD at e
  split at e
  · rename_i a c
    cases e
    obtain ⟨w, rfl, r2⟩ := rr.one
    cases r1; cases r2
    refine mt_find pins s σ H _ _ v us Q I rx rxs ⟨⟨a.toArray⟩, ⟨#[c]⟩, rfl, rfl, ?_⟩
    rw [find_findN]
    exact q _ H (Adv.refl _ _) sr (.int _)
  · cases e
theorem inter_cons (a : List Nat) : ∀ (y : List Nat) (ys : List (List Nat)), List.intercalate a (y :: ys) = y ++ ys.flatMap (fun z => a ++ z)
  | y, [] => by simp [List.intercalate]
  | y, z :: zs => by
    have ih := inter_cons a z zs
    rw [show List.intercalate a (y :: z :: zs) = y ++ (a ++ List.intercalate a (z :: zs)) by simp [List.intercalate, List.intersperse], ih]
    simp
theorem fold_flat (a : List Nat) (ys : List (List Nat)) : ∀ acc : List Nat, List.foldl (fun (w : Array Nat) (p : Str) => w ++ (⟨a.toArray⟩ : Str).cps ++ p.cps) acc.toArray (ys.map fun b => (⟨b.toArray⟩ : Str)) = (acc ++ ys.flatMap fun z => a ++ z).toArray := by
  induction ys with
  | nil => intro acc; simp
  | cons y ys ih =>
    intro acc
    have h := ih (acc ++ (a ++ y))
    simp only [List.map_cons, List.foldl_cons, List.flatMap_cons]
    rw [show (acc.toArray ++ (⟨a.toArray⟩ : Str).cps ++ (⟨y.toArray⟩ : Str).cps) = (acc ++ (a ++ y)).toArray by simp, h]
    simp
theorem join_inter (a : List Nat) (ys : List (List Nat)) : Txt.join ⟨a.toArray⟩ (ys.map fun b => (⟨b.toArray⟩ : Str)) = ⟨(List.intercalate a ys).toArray⟩ := by
  cases ys with
  | nil => rfl
  | cons y ys =>
    rw [inter_cons]
    exact congrArg Str.mk (fold_flat a ys y)
theorem inter_len (a : List Nat) : ∀ ys : List (List Nat), (List.intercalate a ys).length ≤ (ys.map (·.length)).sum + ys.length * a.length
  | [] => by simp [List.intercalate]
  | [y] => by simp [List.intercalate]
  | y :: z :: zs => by
    have ih := inter_len a (z :: zs)
    rw [show List.intercalate a (y :: z :: zs) = y ++ (a ++ List.intercalate a (z :: zs)) by simp [List.intercalate, List.intersperse]]
    rw [List.length_append, List.length_append, List.map_cons, List.sum_cons, List.length_cons, Nat.succ_mul]
    omega
theorem m_join : MfR X "str" "str.join" joinD := by
  intro pins s σ H x xs v us Q I rx rxs ⟨ι, st, dx, ds, d, s', sr, r1, rr, hT, e, q⟩
  unfold joinD at e
  split at e
  · rename_i a d0
    split at e
    · rename_i zs ez
      split at e
      · rename_i ys ey
        split at e
        · rename_i hl
          cases e
          obtain ⟨w, rfl, r2⟩ := rr.one
          obtain ⟨p, vs, rfl, hs, r3⟩ := rep_sqA sr r2 ez
          have ev := strs_of r3 ey
          subst ev
          cases r1
          refine mt_join pins s σ H _ _ v us Q I rx rxs ⟨⟨a.toArray⟩, p, ys.map fun b => (⟨b.toArray⟩ : Str), rfl, rfl, hs, ?_, ?_⟩
          · have e1 : ((ys.map fun b => (⟨b.toArray⟩ : Str)).map (·.length)) = ys.map (·.length) := by
              rw [List.map_map]
              exact List.map_congr_left fun b _ => by show (List.toArray b).size = _; simp
            rw [e1, List.length_map]
            show _ + _ * (List.toArray a).size ≤ _
            simpa using hl
          · rw [join_inter]
            exact q _ H (Adv.refl _ _) sr (.str _ (Nat.le_trans (inter_len a ys) hl))
        · cases e
      · cases e
    · cases e
  · cases e
end

/-! ### sorted, str -/
def leP (x y : D) : Bool := !PySem.W.dataLt (toPy y) (toPy x)
def tupNe : D → Bool
  | .tup (_ :: _) => true
  | _ => false
def notTup : D → Bool
  | .tup _ => false
  | .non => false
  | _ => true
/-- what can be sorted as it is -/
def srtOk (xs : List D) : Bool := xs.all (pd 40) && (xs.all fun x => xs.all fun y => PySem.W.alike (toPy x) (toPy y)) && (xs.all tupNe || xs.all notTup)
def sortedD : Bf := fun ds s => match ds with
  | [d] => match sqL s d with
    | some xs => if srtOk xs = true then some (.lst (xs.mergeSort leP)) else none
    | none => none
  | _ => none
def strI (i : Int) : List Nat := (Str.ofString (toString i)).cps.toList
def strD : Bf := fun ds _ => match ds with
  | [.int i] => if c64 i = true ∧ (strI i).length ≤ 100 then some (.str (strI i)) else none
  | _ => none
section
variable {X : Cx}
theorem each_of {h : Heap} {its : List Value} {vs : List V} {xs : List D} {K : PySem.W.Frag} {mg : Str → Option Value} {ι : Io} {H : Hp} {pins : List (Addr × Obj)} {σ : L2.St} {s : Shared} (I : Inv X pins σ H s) (r : Reps X.K X.mg H ι xs vs) (rv : Vals vs its) (hp : xs.all (pd 40) = true) :
    PySem.W.EachIs (fun (v : Value) (b : D × V) => RelV b.2 v) its (xs.zip vs) ∧ PySem.W.EachIs (fun (v : Value) (b : D × V) => ∃ as, Reads s.heap v (toPy b.1) as) its (xs.zip vs) := by
  induction xs generalizing vs its with
  | nil =>
    cases r
    cases rv
    exact ⟨.nil, .nil⟩
  | cons x xs ih =>
    cases r with
    | cons r1 t =>
      cases rv with
      | cons v1 vt =>
        rw [List.all_cons, Bool.and_eq_true] at hp
        obtain ⟨a, b⟩ := ih t vt hp.2
        exact ⟨.cons v1 a, .cons (Dp.reads I _ _ _ (rep_dp 40 _ _ hp.1 r1) v1) b⟩
theorem zip_reps {K : PySem.W.Frag} {mg : Str → Option Value} {ι : Io} {H : Hp} : ∀ {xs : List D} {vs : List V}, Reps K mg H ι xs vs → ∀ p ∈ xs.zip vs, Rep K mg H ι p.1 p.2
  | _, _, .nil, p, h => by simp at h
  | _, _, .cons r t, p, h => by
    rw [List.zip_cons_cons] at h
    rcases List.mem_cons.mp h with e | h
    · subst e; exact r
    · exact zip_reps t p h
theorem reps_zip {K : PySem.W.Frag} {mg : Str → Option Value} {ι : Io} {H : Hp} : ∀ {ps : List (D × V)}, (∀ p ∈ ps, Rep K mg H ι p.1 p.2) → Reps K mg H ι (ps.map Prod.fst) (ps.map Prod.snd)
  | [], _ => .nil
  | p :: ps, h => .cons (h p List.mem_cons_self) (reps_zip fun q hq => h q (List.mem_cons_of_mem _ hq))
theorem each_vals : ∀ {out : List Value} {ps : List (D × V)}, PySem.W.EachIs (fun (v : Value) (b : D × V) => RelV b.2 v) out ps → Vals (ps.map Prod.snd) out
  | _, _, .nil => .nil
  | _, _, .cons r t => .cons r (each_vals t)
theorem b_sorted (hu : X.A.units + 66 < cLine) : BfR X (.builtin "sorted") sortedD := by
  intro pins s σ H xs us Q I r ⟨ι, st, ds, d, sr, rr, e, q⟩
  unfold sortedD at e
  split at e
  · rename_i d0
    split at e
    · rename_i ys ey
      split at e
      · rename_i hs
        cases e
        simp only [srtOk, Bool.and_eq_true] at hs
        obtain ⟨⟨h1, h2⟩, h3⟩ := hs
        obtain ⟨v, rfl, r1⟩ := rr.one
        obtain ⟨a, vs, rfl, ha, r2⟩ := rep_sqL sr r1 ey
        obtain ⟨its, rv, hl, hz⟩ := I.list (SqL.of ha)
        rw [Vals.ref1 r]
        obtain ⟨e1, e2⟩ := each_of (h := s.heap) (K := X.K) (mg := X.mg) (ι := ι) (H := H) I r2 rv h1
        have ln := r2.length
        have mz : (ys.zip vs).map Prod.fst = ys := List.map_fst_zip (by omega)
        have hal : PySem.W.AllAlike ((ys.zip vs).map fun b => toPy b.1) := by
          intro x hx y hy
          obtain ⟨p, hp, rfl⟩ := List.mem_map.mp hx
          obtain ⟨p', hp', rfl⟩ := List.mem_map.mp hy
          have m1 : p.1 ∈ ys := by rw [← mz]; exact List.mem_map.mpr ⟨p, hp, rfl⟩
          have m2 : p'.1 ∈ ys := by rw [← mz]; exact List.mem_map.mpr ⟨p', hp', rfl⟩
          exact List.all_eq_true.mp (List.all_eq_true.mp h2 _ m1) _ m2
        have hk : PySem.W.Sortable ((ys.zip vs).map fun b => toPy b.1) := by
          rcases Bool.or_eq_true_iff.mp h3 with h | h
          · refine .inl fun x hx => ?_
            obtain ⟨p, hp, rfl⟩ := List.mem_map.mp hx
            have m1 : p.1 ∈ ys := by rw [← mz]; exact List.mem_map.mpr ⟨p, hp, rfl⟩
            have := List.all_eq_true.mp h _ m1
            cases hd : p.1 with
            | tup zs =>
              cases zs with
              | nil => rw [hd] at this; simp [tupNe] at this
              | cons z zs => exact ⟨toPy z, toPys zs, by rw [toPy, toPys]⟩
            | _ => rw [hd] at this; simp [tupNe] at this
          · refine .inr fun x hx => ?_
            obtain ⟨p, hp, rfl⟩ := List.mem_map.mp hx
            have m1 : p.1 ∈ ys := by rw [← mz]; exact List.mem_map.mpr ⟨p, hp, rfl⟩
            have := List.all_eq_true.mp h _ m1
            cases hd : p.1 <;> rw [hd] at this <;> simp [notTup] at this <;> simp [toPy]
        have lz : (ys.zip vs).length = vs.length := by rw [List.length_zip, ln, Nat.min_self]
        refine PySem.W.sorted_data (R := fun (v : Value) (b : D × V) => RelV b.2 v) (enc := fun b : D × V => toPy b.1) hl.isList e1 e2 hal hk (by rw [lz]; exact hz) (fun b hb => ?_) fun out ho eo => ?_
        · have m1 : b.1 ∈ ys := by rw [← mz]; exact List.mem_map.mpr ⟨b, hb, rfl⟩
          have := (pd_plain 40 b.1 (List.all_eq_true.mp h1 _ m1)).2
          omega
        · obtain ⟨ep, he'⟩ := PyProof.Rows.sortedAll_at s.heap its out.toArray
          have ev := each_vals eo
          have hmap : ((ys.zip vs).mergeSort (PySem.W.dataLe false fun b : D × V => toPy b.1)).map Prod.fst = ys.mergeSort leP := by
            have hh : ∀ a ∈ ys.zip vs, ∀ b ∈ ys.zip vs, PySem.W.dataLe false (fun b : D × V => toPy b.1) a b = leP (Prod.fst a) (Prod.fst b) := fun a _ b _ => rfl
            rw [List.map_mergeSort hh, mz]
          have hrep : Reps X.K X.mg H ι (ys.mergeSort leP) (((ys.zip vs).mergeSort (PySem.W.dataLe false fun b : D × V => toPy b.1)).map Prod.snd) := by
            rw [← hmap]
            exact reps_zip fun p hp => zip_reps r2 p (List.mem_mergeSort.mp hp)
          have hlen : (((ys.zip vs).mergeSort (PySem.W.dataLe false fun b : D × V => toPy b.1)).map Prod.snd).length ≤ sizeLine := by
            rw [List.length_map, List.length_mergeSort, lz]; exact hz
          have hn := I.hok.fresh (a := s.heap.objs.size + 1) (Nat.le_succ _)
          exact ⟨.ref _, upd H (s.heap.objs.size + 1) (.lst _), I.laid (t' := s.toks) (fun _ _ => PyProof.Rows.sortedAll_old) (Nat.le_succ _) ⟨hlen, out, ep, ev, he'⟩, rfl, q _ _ (adv_upd ι hn) (sr.upd hn) (rep_lst' sr hrep hn)⟩
      · cases e
    · cases e
  · cases e
theorem b_str : BfR X (.type "str") strD := by
  intro pins s σ H xs us Q I r ⟨ι, st, ds, d, sr, rr, e, q⟩
  unfold strD at e
  split at e
  · rename_i i
    split at e
    · rename_i hi
      cases e
      obtain ⟨v, rfl, r1⟩ := rr.one
      cases r1
      obtain ⟨hi, hl⟩ := hi
      rw [c64_iff] at hi
      have hlog : i.natAbs.log2 < 1920 := by
        by_cases h0 : i.natAbs = 0
        · rw [h0]; decide
        · refine (Nat.log2_lt h0).mpr ?_
          have : i.natAbs < 2 ^ 64 := by omega
          exact Nat.lt_of_lt_of_le this (Nat.pow_le_pow_right (by decide) (by omega))
      refine call_str_int pins s σ H _ us Q I r ⟨i, rfl, hlog, q _ H (Adv.refl _ _) sr (rep_str rfl (Nat.le_trans hl (by decide)))⟩
    · cases e
  · cases e
end
end Z
namespace Z
open PySem PySem.Spec PyProof.Rows L2
section
variable {X : Cx} {W : WX} {pos : Pos}
theorem uu {k : Nat} {A : Around} (hr : Room k A) : A.units + 66 < cLine := by have := hr.un; omega
theorem uu64 {k : Nat} {A : Around} (hr : Room k A) : A.units + 64 < cLine := by have := hr.un; omega
theorem de_globI {x : Str} {i : Int} (h : ∃ t, X.mg x = some (.int i t)) (hg : Gl X x) (hd : (x == ("__debug__" : Str)) = false := by decide) : DE X W (.Name x pos) (dC (.int i)) := by
  obtain ⟨t, h⟩ := h
  exact de_glob (v := .int i) hg h ⟨t, rfl⟩ (fun _ _ => .int i) hd
theorem de_globS {x : Str} {s : List Nat} (h : ∃ z t, X.mg x = some (.str z t) ∧ z.cps.toList = s ∧ s.length ≤ 16777216) (hg : Gl X x) (hd : (x == ("__debug__" : Str)) = false := by decide) : DE X W (.Name x pos) (dC (.str s)) := by
  obtain ⟨z, t, h, e, hl⟩ := h
  exact de_glob (v := .str z) hg h ⟨t, rfl⟩ (fun _ _ => rep_str e hl) hd
def Quiets (t : Tgs) : Prop := ∀ ds ρ s ρ' s', t ds ρ s = some (ρ', s') → s' = s
theorem quiets_nil : Quiets gsNil := quiet_nil
theorem quiets_cons {t : Tg} {u : Tgs} (h : Quiet t) (k : Quiets u) : Quiets (gsCons t u) := fun ds ρ s ρ' s' e => by
  unfold gsCons at e
  split at e
  · rename_i d r
    cases e1 : t d ρ s with
    | none => rw [e1] at e; cases e
    | some p =>
      obtain ⟨ρ1, s1⟩ := p
      rw [e1] at e
      have := h _ _ _ _ _ e1
      subst this
      exact k _ _ _ _ _ e
  · cases e
theorem quiet_tup {n : Nat} {t : Tgs} (h : Quiets t) : Quiet (gTupD n t) := fun d ρ s ρ' s' e => by
  unfold gTupD at e
  split at e
  · split at e
    · exact h _ _ _ _ _ e
    · cases e
  · cases e
/-- a, b, c = x, y, z -/
def sPar3 (i j l : Nat) (fa : Exps) : Sm := fun ρ s => (fa ρ s).toF ρ fun ds s1 => match ds with
  | [d, e, f] => .nx (((ρ.set i (some d)).set j (some e)).set l (some f)) s1
  | _ => .no
theorem ds_par3 (i j l : Nat) {x y z : Str} {a b c : Expr} {fa : Exps} {px py pz pt : Pos} {kt k2 pt2} (hc : X.calm = true) (hN : X.N.Nodup) (ha : DA X W [a, b, c] fa) (hi : X.N[i]? = some x := by rfl) (hj : X.N[j]? = some y := by rfl) (hl : X.N[l]? = some z := by rfl) (hij : i ≠ j := by decide) (hil : i ≠ l := by decide) (hjl : j ≠ l := by decide)
    (hx : X.env.scope.names.lookup x = some .local := by rfl) (hy : X.env.scope.names.lookup y = some .local := by rfl) (hz : X.env.scope.names.lookup z = some .local := by rfl)
    (hw : swappedStores [.Tuple [.Name x px, .Name y py, .Name z pz] kt pt] (.Tuple [a, b, c] k2 pt2) X.env = pure (some [x, y, z]) := by rfl)
    (hs : swapsWithSole [.Tuple [.Name x px, .Name y py, .Name z pz] kt pt] (.Tuple [a, b, c] k2 pt2) pos.line X.env = pure false := by rfl) :
    DS X W (.Assign [.Tuple [.Name x px, .Name y py, .Name z pz] kt pt] (.Tuple [a, b, c] k2 pt2) pos) (sPar3 i j l fa) :=
  ps_imp (ps_par3 hc hN hi hj hl hij hil hjl hx hy hz ha hw hs) fun D σ H ⟨ι, ρ, s, er, sr, q⟩ => by
    refine tDA_toF er sr q fun vs H1 ι1 s1 ds er1 sr1 r q1 => ?_
    match ds, vs, r, q1 with
    | [d, e, f], [u, v, w], .cons r (.cons r' (.cons r'' .nil)), q1 => exact ⟨u, v, w, rfl, q1 _ _ _ (Adv.refl _ _) sr1 (((er1.set i r).set j r').set l r'')⟩
    | [], _, _, q1 => exact (q1 : False).elim
    | [_], _, _, q1 => exact (q1 : False).elim
    | [_, _], _, _, q1 => exact (q1 : False).elim
    | _ :: _ :: _ :: _ :: _, _, _, q1 => exact (q1 : False).elim
end
/-! names of the built-in -/
theorem bt_len : bootBuiltins "len" = some (.builtin "len") := by decide +kernel
theorem bt_all : bootBuiltins "all" = some (.builtin "all") := by decide +kernel
theorem bt_any : bootBuiltins "any" = some (.builtin "any") := by decide +kernel
theorem bt_sum : bootBuiltins "sum" = some (.builtin "sum") := by decide +kernel
theorem bt_abs : bootBuiltins "abs" = some (.builtin "abs") := by decide +kernel
theorem bt_sorted : bootBuiltins "sorted" = some (.builtin "sorted") := by decide +kernel
theorem bt_isinstance : bootBuiltins "isinstance" = some (.builtin "isinstance") := by decide +kernel
theorem bt_int : bootBuiltins "int" = some (.type "int") := by decide +kernel
theorem bt_str : bootBuiltins "str" = some (.type "str") := by decide +kernel
theorem bt_bool : bootBuiltins "bool" = some (.type "bool") := by decide +kernel
theorem bt_tuple : bootBuiltins "tuple" = some (.type "tuple") := by decide +kernel
theorem bt_list : bootBuiltins "list" = some (.type "list") := by decide +kernel
theorem bt_dict : bootBuiltins "dict" = some (.type "dict") := by decide +kernel
/-! a def of depth nought -/
theorem cal_no {P : Program} {w : World} {K : PySem.W.Frag} {mg : Str → Option Value} {base : Heap} {k : Nat} {x qual : Str} {st : Stmt} {f : Addr} {fd : FuncData} {ps : List Str} (F : Fun K x qual st f fd) (hm : mg x = some (.ref f)) (hb : Binds K fd ps []) : Cal P w K mg base k x ps.length (fun _ _ => .no) :=
  ⟨⟨f, fd, ps, ⟨fun vs H Q E h => h.1, fun A outer s H args us vs Q E hr he hb hv h => by
    obtain ⟨_, _, _, _, _, _, z⟩ := h
    exact z.elim⟩, hm, F.kp, hb⟩, fun _ _ _ => rfl⟩
/-! the law's end -/
def spEnd (K : PySem.W.Frag) : Sp := fun vs H Q _ => ∃ (a : Addr) (ns : List Int), vs = [.ref a] ∧ Only H ∧ SqL K H a (ns.map V.int) ∧ ns.length ≤ 63 ∧ ∀ H', Q (.bl true) H'
theorem reps_ints {K : PySem.W.Frag} {mg : Str → Option Value} {ι : Io} {H : Hp} : ∀ ns : List Int, Reps K mg H ι (ns.map D.int) (ns.map V.int)
  | [] => .nil
  | n :: ns => .cons (.int n) (reps_ints ns)
theorem law_end {P : Program} {w : World} {K : PySem.W.Frag} {mg : Str → Option Value} {base : Heap} {k : Nat} {x : Str} {G : Fn} {f : Addr} (C : Cal P w K mg base k x 1 G) (hf : mg x = some (.ref f))
    (law : ∀ ns : List Int, ns.length ≤ 63 → ∃ s', G [.fzl (ns.map D.int)] [] = .ok (.bl true) s') :
    ∃ (fd : FuncData) (ps : List Str), FnOk P w K mg base (L2.CX P w) k f fd ps (spEnd K) := by
  obtain ⟨f', fd, ps, F, hm, hk, hb⟩ := C.ex
  rw [hf] at hm
  cases hm
  refine ⟨fd, ps, F.imp fun vs H Q E h => ?_⟩
  obtain ⟨a, ns, rfl, ho, hs, hl, q⟩ := h
  obtain ⟨s', e⟩ := law ns hl
  refine ⟨rfl, ⟨[], []⟩, [.fzl (ns.map D.int)], [], .cons (.fzl ?_ (reps_ints ns)) .nil, ⟨rfl, List.nodup_nil, (fun _ h => nomatch h), (fun _ h => nomatch h), (fun _ _ _ e => nomatch e)⟩, ?_⟩
  · rcases hs with (h | ⟨o, h⟩) | h
    · rcases ho a with z | ⟨o, xs, z⟩
      · rw [z] at h; cases h
      · rw [z] at h; cases h
    · exact .inl ⟨o, h⟩
    · exact .inr h
  · rw [e]
    intro v H' ι' _ _ r
    cases r
    exact q H'
end Z

set_option Elab.async false
set_option linter.all false
set_option maxRecDepth 100000
set_option maxHeartbeats 2000000
namespace Z
open PySem PySem.Spec PyProof.Rows L2
/-! ### x[::-1] -/
section
variable {prog : Program} {w : World} {A : Around} {E : Value → Shared → Prop} {s : Shared}
theorem adj_rev (n : Nat) : Builtin.Slice.sliceAdjust none none (-1) (n : Int) = ((n : Int) - 1, -1) := by
  unfold Builtin.Slice.sliceAdjust
  simp
theorem plc_rev (n : Nat) : Builtin.Slice.slicePlaces ((n : Int) - 1) (-1) (-1) = n := by
  unfold Builtin.Slice.slicePlaces
  have h1 : ¬ ((-1 : Int) > 0) := by omega
  simp only [h1, if_false]
  rw [show (- -1 : Int) = 1 by decide, Int.ediv_one]
  split <;> omega
theorem app_rev {sl : Addr} {vl vu vs : Value} {n : Nat} {Q : Int × Int × Nat → Shared → Prop} (hs : s.heap.IsSliceOf sl vl vu vs) (pl : IsPart vl none) (pu : IsPart vu none) (ps : IsPart vs (some (-1)))
    (h : Q ((n : Int) - 1, -1, n) s) : wpAny (model prog w) A (Builtin.Slice.sliceApplied (.ref sl) (pure (n : Int))) Q E s := by
  obtain ⟨os, hos, hcs, hds⟩ := id hs
  unfold Builtin.Slice.sliceApplied Builtin.Slice.sliceFields
  refine wpAny_bind (wpAny_bind (wpAny_field hos hds (x := vl) rfl (wpAny_bind (wpAny_field hos hds (x := vu) rfl (wpAny_bind (wpAny_field hos hds (x := vs) rfl (wpAny_pure ?_)))))))
  refine wpAny_bind (HT.slicePart_ ps ?_)
  show wpAny _ _ (if ((-1 : Int) == 0) = true then _ else _) _ _ s
  rw [if_neg (by decide)]
  refine wpAny_bind (HT.slicePart_ pl (wpAny_bind (HT.slicePart_ pu (wpAny_bind (wpAny_pure ?_)))))
  show wpAny _ _ (match Builtin.Slice.sliceAdjust none none (-1) (n : Int) with | (lo, hi) => pure (lo, (-1 : Int), Builtin.Slice.slicePlaces lo hi (-1))) _ _ s
  rw [adj_rev n]
  show wpAny _ _ (pure ((n : Int) - 1, (-1 : Int), Builtin.Slice.slicePlaces ((n : Int) - 1) (-1) (-1))) _ _ s
  rw [plc_rev]
  exact wpAny_pure h
theorem pick_rev (xs : Array Value) : ((List.range xs.size).filterMap fun (m : Nat) => xs[(((xs.size : Int) - 1) + (m : Int) * (-1)).toNat]?).toArray = xs.toList.reverse.toArray := by
  have e : (fun (m : Nat) => xs[(((xs.size : Int) - 1) + (m : Int) * (-1)).toNat]?) = fun m => xs[xs.size - 1 - m]? := by
    funext m
    have : (((xs.size : Int) - 1) + (m : Int) * (-1)).toNat = xs.size - 1 - m := by omega
    rw [this]
  rw [e]
  have := PySem.W.krv_pick xs
  rw [← this]
  unfold PySem.slicePick
  rw [PySem.W.krv_bounds]
  show _ = ((sliceRange ((xs.size : Int) - 1) (-1) (-1)).filterMap (xs[·]?)).toArray
  rw [PySem.W.krv_sliceRange, List.filterMap_map]
  rfl
theorem getItem_tuple_rev {t sl : Addr} {items : Array Value} {vl vu vs : Value} {Q : Value → Shared → Prop} (ht : IsTup s.heap t items) (hs : s.heap.IsSliceOf sl vl vu vs) (pl : IsPart vl none) (pu : IsPart vu none) (ps : IsPart vs (some (-1)))
    (h : Q (.ref s.heap.objs.size) { s with heap := s.heap.push { cls := .type "tuple", data := .seq items.toList.reverse.toArray } })
    (hsz : items.size ≤ sizeLine) : wpAny (model prog w) A (getItem (.ref t) (.ref sl)) Q E s := by
  have htake : sizeOk (.seq items.toList.reverse.toArray) := by
    show items.toList.reverse.toArray.size ≤ sizeLine
    rw [List.size_toArray, List.length_reverse, Array.length_toList]
    exact hsz
  obtain ⟨os, hos, hcs, hds⟩ := id hs
  have hTs : s.TypeIs (.ref sl) "slice" := ⟨os, hos, hcs⟩
  unfold getItem
  try with_reducible refine wpAny_holding ?_
  first | refine wpAny_bind (wpAny_pure ?_) | skip
  refine wpAny_bind (wpAny_sequenceKey ht.typeIs (by decide) ?_)
  refine wpAny_bind (wpAny_callSpecial?_slot (name := Str.ofString "__getitem__") ht.typeIs PyProof.Rows.slot_tuple_getitem
    (wpAny_call_entry PyProof.Rows.slot_tuple_getitem ht.typeIs entry_tuple_getitem ?_ (args_tuple_getitem _ _)))
  show wpAny _ _ (Builtin.Tuple.tupleItemsOf (.ref t) >>= _) _ _ s
  refine wpAny_bind (tupleItemsOf_ ht ?_)
  refine wpAny_bind (wpAny_typeOf hTs ?_)
  rw [if_pos (by decide)]
  refine wpAny_bind (app_rev hs pl pu ps ?_)
  have hno : ¬ ((((items.size : Int) - 1) == 0 && (-1 : Int) == 1 && items.size == items.size) = true) := by simp
  show wpAny _ _ (if (((items.size : Int) - 1) == 0 && (-1 : Int) == 1 && items.size == items.size) = true then _ else _) _ _ s
  rw [if_neg hno, pick_rev]
  first
    | exact wpAny_bind (m := Builtin.Tuple.tupleExact _) (wpAny_newObj_type (wpAny_pure ⟨_, rfl, wpAny_pure h⟩) htake)
    | exact wpAny_bind (m := Builtin.Tuple.tupleExact _) (wpAny_newObj_type (wpAny_bind (wpAny_pure (wpAny_pure ⟨_, rfl, wpAny_pure h⟩))) htake)
    | exact wpAny_bind (wpAny_bind (m := Builtin.Tuple.tupleExact _) (wpAny_newObj_type (wpAny_pure (wpAny_pure ⟨_, rfl, wpAny_pure h⟩)) htake))
    | exact wpAny_bind (wpAny_bind (m := Builtin.Tuple.tupleExact _) (wpAny_newObj_type (wpAny_pure ⟨_, rfl, wpAny_pure h⟩) htake))
theorem fmap_map {α β : Type} {f : α → Option β} {g : α → β} : ∀ {l : List α}, (∀ k ∈ l, f k = some (g k)) → l.filterMap f = l.map g
  | [], _ => rfl
  | x :: l, h => by
    rw [List.filterMap_cons, h x (List.mem_cons_self ..), List.map_cons, fmap_map fun k hk => h k (List.mem_cons_of_mem _ hk)]
theorem str_rev (x : Str) : (Builtin.Str.strSliceIndices none none (-1) x.length).filterMap (x.cps[·]?) = x.cps.toList.reverse := by
  show (sliceRange ((x.length : Int) - 1) (-1) (-1)).filterMap (x.cps[·]?) = _
  rw [show x.length = x.cps.size from rfl, PySem.W.krv_sliceRange]
  have e : (fun k => x.cps.size - 1 - k) = fun k => x.cps.toList.length - 1 - k := by rw [Array.length_toList]
  apply List.ext_getElem?
  intro i
  rw [List.filterMap_map]
  have hf : List.filterMap ((fun k => x.cps[k]?) ∘ fun k => x.cps.size - 1 - k) (List.range x.cps.size) = (List.range x.cps.size).map fun k => x.cps.toList.reverse.getD k 0 := by
    refine fmap_map fun k hk => ?_
    have hk := List.mem_range.mp hk
    have h2 : x.cps.size - 1 - k < x.cps.size := by omega
    have h3 : k < x.cps.toList.reverse.length := by rw [List.length_reverse, Array.length_toList]; exact hk
    show x.cps[x.cps.size - 1 - k]? = some (x.cps.toList.reverse.getD k 0)
    rw [Array.getElem?_eq_getElem h2, List.getD_eq_getElem?_getD, List.getElem?_eq_getElem h3, List.getElem_reverse]
    simp
  rw [hf, List.getElem?_map]
  by_cases hi : i < x.cps.size
  · rw [List.getElem?_range hi]
    have h3 : i < x.cps.toList.reverse.length := by rw [List.length_reverse, Array.length_toList]; exact hi
    simp only [Option.map_some]
    rw [List.getD_eq_getElem?_getD, List.getElem?_eq_getElem h3]
    rfl
  · rw [List.getElem?_eq_none (by rw [List.length_range]; omega), List.getElem?_eq_none (by rw [List.length_reverse, Array.length_toList]; omega)]
    rfl
end
def revD (x : D) (s : Sto) : Option D := match x with
  | .str a => some (.str a.reverse)
  | .tup a => some (.tup a.reverse)
  | x => (sqL s x).map fun a => .lst a.reverse
def dRev (fe : Exp) : Exp := fun ρ s => (fe ρ s).bind fun x s1 => lift (revD x s1) s1
theorem Reps.rev {K : PySem.W.Frag} {mg : Str → Option Value} {H : Hp} {ι : Io} : ∀ {ds : List D} {vs : List V}, Reps K mg H ι ds vs → Reps K mg H ι ds.reverse vs.reverse
  | _, _, .nil => .nil
  | _, _, .cons r t => by
    rw [List.reverse_cons, List.reverse_cons]
    exact (Reps.rev t).append (.cons r .nil)
section
variable {X : Cx} {W : WX} {e : Expr} {fe : Exp}
theorem de_rev {k : Nat} {p1 p2 p3 pos : Pos} (he : DE X W e fe) : DE X W (.Subscript e (.Slice none none (some (.UnaryOp .USub (.Constant (.int 1) k p1) p2)) p3) pos) (dRev fe) := by
  refine ⟨fun pins s σ H Q I ⟨ι, ρ, st, er, sr, q⟩ => ?_⟩
  refine Subscript_ (thn (he.run pins s σ H (fun x H1 => ∃ ι1 s1 d d', StR X.K X.mg H1 ι1 s1 ∧ Rep X.K X.mg H1 ι1 d x ∧ revD d s1 = some d' ∧ ∀ z H' , Adv ι1 H1 ι1 H' → StR X.K X.mg H' ι1 s1 → Rep X.K X.mg H' ι1 d' z → Q z H') I ?_) fun v s1 ⟨x, H1, I1, r1, q1⟩ => ?_)
  · refine tD_step er sr q fun v H1 ι1 s1 d a1 er1 sr1 r1 q1 => ?_
    cases ec : revD d s1 with
    | none => rw [ec] at q1; exact (q1 : False).elim
    | some d' =>
      rw [ec] at q1
      exact ⟨ι1, s1, d, d', sr1, r1, ec, fun z H' a st r => q1 z H' ι1 a st r⟩
  obtain ⟨ι1, st1, d, d', sr1, rr, ed, q⟩ := q1
  have hst : PO X (some (.UnaryOp .USub (.Constant (.int 1) k p1) p2)) (tPart (tUn (rU fun i => .int (-i)) (tC (.int 1)))) := po_some (pe_un un_neg pe_int)
  refine wpAny_Slice (thn (po_none.run pins s1 σ H1 (fun o H2 => o = none ∧ H2 = H1) I1 ⟨rfl, rfl⟩) fun vl s2 ⟨l, H2, I2, pl, el, e2⟩ => ?_)
  subst el e2
  refine thn (po_none.run pins s2 σ H2 (fun o H3 => o = none ∧ H3 = H2) I2 ⟨rfl, rfl⟩) fun vu s3 ⟨u, H3, I3, pu, eu, e3⟩ => ?_
  subst eu e3
  refine thn (hst.run pins s3 σ H3 (fun o H4 => o = some (-1) ∧ H4 = H3) I3 ⟨1, rfl, -1, rfl, rfl, rfl⟩) fun vs s4 ⟨o, H4, I4, ps, eo, e4⟩ => ?_
  subst eo e4
  have I5 : Inv X pins σ H4 { s4 with heap := s4.heap.push { cls := .type "slice", data := .fields #[vl, vu, vs] } } := I4.kept (t' := s4.toks) fun b ob q => Heap.get?_push_of_some _ q
  show wpAny (model X.prog X.w) X.A (subscriptTail e (.Slice none none (some (.UnaryOp .USub (.Constant (.int 1) k p1) p2)) p3) v (.ref s4.heap.objs.size)) (EP X pins σ Q) X.xe { s4 with heap := s4.heap.push { cls := .type "slice", data := .fields #[vl, vu, vs] } }
  unfold revD at ed
  split at ed
  · rename_i a
    cases ed
    cases rr with
    | str _ hl =>
      obtain ⟨t, rfl⟩ := r1
      refine tail_any (ops := [.str ⟨a.toArray⟩ t, .ref s4.heap.objs.size]) (typeIs_str _ _ _) (F.slot_str_getitem.lookup) ?_ (by with_unfolding_all rfl)
      obtain ⟨os, hos, hcs, hds⟩ := Heap.IsSliceOf.new s4.heap vl vu vs
      obtain ⟨l', rfl, hl1⟩ := IsPart.raw pl
      obtain ⟨u', rfl, hu1⟩ := IsPart.raw pu
      obtain ⟨c', rfl, hc1⟩ := IsPart.raw ps
      refine wpAny_getItem_str_slice (l := l') (u := u') (st := c') ⟨os, hos, hcs, hds⟩ (by rw [hc1]; rfl) ?_
      unfold sliceMade slicePicked
      rw [hc1, hl1, hu1]
      have es := str_rev ⟨a.toArray⟩
      show Made.post (if ((-1 : Int) == 1 && (Builtin.Str.strSliceIndices none none (-1) (Str.length ⟨a.toArray⟩)).length == Str.length ⟨a.toArray⟩) = true then _ else Made.str ⟨((Builtin.Str.strSliceIndices none none (-1) (Str.length ⟨a.toArray⟩)).filterMap ((⟨a.toArray⟩ : Str).cps[·]?)).toArray⟩) _ _
      rw [if_neg (by simp), es]
      have e2 : (⟨(⟨a.toArray⟩ : Str).cps.toList.reverse.toArray⟩ : Str) = ⟨a.reverse.toArray⟩ := by simp
      rw [e2]
      have hle : a.reverse.length ≤ 16777216 := by rw [List.length_reverse]; exact hl
      refine ⟨by show (a.reverse.toArray).size ≤ sizeLine; rw [sizeL]; simpa using hl, .str _, H4, I5.tok _, ⟨_, rfl⟩, q _ H4 (Adv.refl _ _) sr1 (.str _ hle)⟩
  · rename_i a
    cases ed
    cases rr with
    | @tup p vs' ds hq rr =>
      cases r1
      obtain ⟨its, r, ht, hz⟩ := I5.tuple hq
      have hlen := r.length
      refine tail_any (ops := [.ref p, .ref s4.heap.objs.size]) ht.typeIs (PyProof.Rows.slot_tuple_getitem.lookup) ?_ (by with_unfolding_all rfl)
      refine getItem_tuple_rev ht (Heap.IsSliceOf.new _ vl vu vs) pl pu ps ?_ (by rw [List.size_toArray]; omega)
      have hfr := I5.hok.fresh (Nat.le_refl _)
      refine ⟨.ref _, _, I5.laid (t' := s4.toks) (o := .tup vs'.reverse) (fun b ob q => Heap.get?_push_of_some _ q) (Nat.le_refl _) ?_, rfl, q _ _ (adv_upd ι1 hfr) (sr1.upd hfr) (rep_tup' sr1 rr.rev hfr)⟩
      exact ⟨by rw [List.length_reverse]; exact hz, _, r.reverse, IsTup.new _ _⟩
  · cases ea : sqL st1 d with
    | none => rw [ea] at ed; cases ed
    | some xs =>
      rw [ea] at ed
      cases ed
      obtain ⟨a, ws, rfl, ha, rr⟩ := rep_sqL sr1 rr ea
      cases r1
      obtain ⟨its, r, ht, hz⟩ := I5.list (SqL.of ha)
      have hlen := r.length
      refine tail_any (ops := [.ref a, .ref s4.heap.objs.size]) ht.isList.typeIs (PySem.slot_list_getitem.lookup) ?_ (by with_unfolding_all rfl)
      refine wpAny_getItem_list_slice ht.isList (Heap.IsSliceOf.new _ vl vu vs) pl pu ps (by decide) ?_ (by rw [List.size_toArray]; omega)
      rw [PySem.W.krv_pick]
      have hfr := I5.hok.fresh (Nat.le_refl _)
      refine ⟨.ref _, _, I5.laid (t' := s4.toks) (o := .lst ws.reverse) (fun b ob q => Heap.get?_push_of_some _ q) (Nat.le_refl _) ?_, rfl, q _ _ (adv_upd ι1 hfr) (sr1.upd hfr) (rep_lst' sr1 rr.rev hfr)⟩
      exact ⟨by rw [List.length_reverse]; exact hz, _, 0, r.reverse, Heap.get?_push_size _ rfl⟩
end
/-! ### list(text), tuple(text) -/
def listD2 : Bf := fun ds s => match ds with
  | [.str a] => some (.lst (a.map fun c => .str [c]))
  | ds => listD ds s
def tupleD2 : Bf := fun ds s => match ds with
  | [.str a] => some (.tup (a.map fun c => .str [c]))
  | ds => tupleD ds s
section
variable {X : Cx}
theorem signs_vals {a : List Nat} {acc : Array Value} (h : ItemsOf (SignAt ⟨a.toArray⟩) acc a.toArray.size) : Vals (a.map fun c => V.str ⟨#[c]⟩) acc.toList := by
  refine vals_of_at (by rw [List.length_map]; have := h.1; simp at this; simp [this]) fun j x w h1 h2 => ?_
  obtain ⟨c, u, hc, rfl⟩ := h.2 j w (by rw [← Array.getElem?_toList]; exact h2)
  have hc : a[j]? = some c := by simpa using hc
  rw [List.getElem?_map, hc] at h1
  cases h1
  exact ⟨u, rfl⟩
theorem signs_reps {K : PySem.W.Frag} {mg : Str → Option Value} {H : Hp} {ι : Io} : ∀ a : List Nat, Reps K mg H ι (a.map fun c => D.str [c]) (a.map fun c => V.str ⟨#[c]⟩)
  | [] => .nil
  | c :: a => .cons (.str [c] (show 1 ≤ 16777216 by omega)) (signs_reps a)
theorem b_list2 (hc : X.calm = true) : BfR X (.type "list") listD2 := by
  intro pins s σ H xs us Q I r ⟨ι, st, ds, d, sr, rr, e, q⟩
  unfold listD2 at e
  split at e
  · rename_i a
    obtain ⟨v, rfl, r1⟩ := rr.one
    cases e
    obtain ⟨u, rfl, rx⟩ := vals1 r
    cases r1 with
    | str _ hl =>
      obtain ⟨t, rfl⟩ := rx
      refine call_list_str (I.ok.hd hc) _ t (fun h' tk acc' c' kp hS hacc => ?_) (by rw [sizeL]; simpa using hl)
      refine ⟨.ref s.heap.objs.size, upd H s.heap.objs.size (.lst (a.map fun c => V.str ⟨#[c]⟩)), I.laid kp (Nat.le_refl _) (show ObjOk X.prog X.w _ h' _ (.lst _) from ⟨by rw [List.length_map, sizeL]; exact hl, acc'.toList, c', signs_vals hacc, by simpa using hS⟩), rfl, ?_⟩
      have hf := I.hok.fresh (Nat.le_refl s.heap.objs.size)
      exact q _ _ (adv_upd ι hf) (sr.upd hf) (rep_lst' sr (signs_reps a) hf)
  · exact b_list pins s σ H xs us Q I r ⟨ι, st, ds, d, sr, rr, e, q⟩
theorem b_tuple2 (hc : X.calm = true) : BfR X (.type "tuple") tupleD2 := by
  intro pins s σ H xs us Q I r ⟨ι, st, ds, d, sr, rr, e, q⟩
  unfold tupleD2 at e
  split at e
  · rename_i a
    obtain ⟨v, rfl, r1⟩ := rr.one
    cases e
    obtain ⟨u, rfl, rx⟩ := vals1 r
    cases r1 with
    | str _ hl =>
      obtain ⟨t, rfl⟩ := rx
      refine call_tuple_str (I.ok.hd hc) _ t (fun h' tk acc kp hacc => ?_) (by rw [sizeL]; simpa using hl)
      have I1 : Inv X pins σ H { s with heap := h', toks := tk } := I.kept (t' := tk) kp
      have hf := I1.hok.fresh (Nat.le_refl h'.objs.size)
      refine ⟨.ref h'.objs.size, upd H h'.objs.size (.tup (a.map fun c => V.str ⟨#[c]⟩)), I1.laid (t' := tk) (fun b ob q => Heap.get?_push_of_some _ q) (Nat.le_refl _) (show ObjOk X.prog X.w _ _ _ (.tup _) from ⟨by rw [List.length_map, sizeL]; exact hl, acc.toList, signs_vals hacc, by simpa using IsTup.new h' acc⟩), rfl, ?_⟩
      exact q _ _ (adv_upd ι hf) (sr.upd hf) (rep_tup' sr (signs_reps a) hf)
  · exact b_tuple pins s σ H xs us Q I r ⟨ι, st, ds, d, sr, rr, e, q⟩
end
theorem law_end2 {P : Program} {w : World} {K : PySem.W.Frag} {mg : Str → Option Value} {base : Heap} {k : Nat} {ps : List Str} {fd : FuncData} {G : Fn} {f : Addr} (F : FnOk P w K mg base (L2.CX P w) k f fd ps (spG K mg 1 G))
    (law : ∀ ns : List Int, ns.length ≤ 63 → ∃ s', G [.fzl (ns.map D.int)] [] = .ok (.bl true) s') :
    FnOk P w K mg base (L2.CX P w) k f fd ps (spEnd K) := by
  refine F.imp fun vs H Q E h => ?_
  obtain ⟨a, ns, rfl, ho, hs, hl, q⟩ := h
  obtain ⟨s', e⟩ := law ns hl
  refine ⟨rfl, ⟨[], []⟩, [.fzl (ns.map D.int)], [], .cons (.fzl ?_ (reps_ints ns)) .nil, ⟨rfl, List.nodup_nil, (fun _ h => nomatch h), (fun _ h => nomatch h), (fun _ _ _ e => nomatch e)⟩, ?_⟩
  · rcases hs with (h | ⟨o, h⟩) | h
    · rcases ho a with z | ⟨o, xs, z⟩
      · rw [z] at h; cases h
      · rw [z] at h; cases h
    · exact .inl ⟨o, h⟩
    · exact .inr h
  · rw [e]
    intro v H' ι' _ _ r
    cases r
    exact q H'
end Z

set_option Elab.async false
set_option linter.all false
set_option maxRecDepth 100000
set_option maxHeartbeats 2000000
namespace Z
/-! ### plain reckoning with the functions -/
theorem sSeq_ap (f g : Sm) (ρ : Ev) (s : Sto) : sSeq f g ρ s = (f ρ s).seq g := rfl
theorem sIf_ap (t : Tst) (f g : Sm) (ρ : Ev) (s : Sto) : sIf t f g ρ s = (t ρ s).toF ρ fun b s1 => if b = true then f ρ s1 else g ρ s1 := rfl
theorem sRet_ap (fe : Exp) (ρ : Ev) (s : Sto) : sRet fe ρ s = (fe ρ s).toF ρ fun d s1 => .rt d s1 := rfl
theorem sExp_ap (fe : Exp) (ρ : Ev) (s : Sto) : sExp fe ρ s = (fe ρ s).toF ρ fun _ s1 => .nx ρ s1 := rfl
theorem sNil_ap (ρ : Ev) (s : Sto) : sNil ρ s = .nx ρ s := rfl
theorem sAsgN_ap (fe : Exp) (i : Nat) (ρ : Ev) (s : Sto) : sAsg fe (gN i) ρ s = (fe ρ s).toF ρ fun d s1 => .nx (ρ.set i (some d)) s1 := rfl
theorem sAsg_ap (fe : Exp) (t : Tg) (ρ : Ev) (s : Sto) : sAsg fe t ρ s = (fe ρ s).toF ρ fun d s1 => match t d ρ s1 with
  | some (ρ', s') => .nx ρ' s'
  | none => .no := rfl
theorem gN_ap (i : Nat) (d : D) (ρ : Ev) (s : Sto) : gN i d ρ s = some (ρ.set i (some d), s) := rfl
theorem sFor_ap (fi : Itr_) (t : Tg) (body : Sm) (ρ : Ev) (s : Sto) : sFor fi t body ρ s = (fi ρ s).toF ρ fun p s1 => forD t body p.2 p.1 ρ s1 := rfl
theorem dC_ap (d : D) (ρ : Ev) (s : Sto) : dC d ρ s = .ok d s := rfl
theorem dVar_ap {i : Nat} {ρ : Ev} {d : D} (s : Sto) (h : ρ[i]? = some (some d)) : dVar i ρ s = .ok d s := by unfold dVar; rw [h]
theorem dVar0 (d : D) (r : Ev) (s : Sto) : dVar 0 (some d :: r) s = .ok d s := rfl
theorem dVarS (i : Nat) (x : Option D) (r : Ev) (s : Sto) : dVar (i + 1) (x :: r) s = dVar i r s := rfl
theorem set0 (x : Option D) (r : Ev) (y : Option D) : List.set (x :: r) 0 y = y :: r := rfl
theorem setS (i : Nat) (x : Option D) (r : Ev) (y : Option D) : List.set (x :: r) (i + 1) y = x :: List.set r i y := rfl
theorem dOp_ap (g : Op) (fa fb : Exp) (ρ : Ev) (s : Sto) : dOp g fa fb ρ s = (fa ρ s).bind fun x s1 => (fb ρ s1).bind fun y s2 => lift (g x y s2) s2 := rfl
theorem dOp1_ap (g : Op1) (fa : Exp) (ρ : Ev) (s : Sto) : dOp1 g fa ρ s = (fa ρ s).bind fun x s1 => lift (g x s1) s1 := rfl
theorem dTst_ap (f : Exp) (ρ : Ev) (s : Sto) : dTst f ρ s = (f ρ s).bind isB := rfl
theorem isB_bl (b : Bool) (s : Sto) : isB (.bl b) s = .ok b s := rfl
theorem dChain_ap (g g' : Op) (fa fb fc : Exp) (ρ : Ev) (s : Sto) : dChain g g' fa fb fc ρ s = (fa ρ s).bind fun x s1 => (fb ρ s1).bind fun y s2 => (lift (g x y s2) s2).bind fun z s3 => (isB z s3).bind fun k s3 => if k = true then (fc ρ s3).bind fun u s4 => lift (g' y u s4) s4 else .ok (.bl false) s3 := rfl
theorem tAndD_ap (t u : Tst) (ρ : Ev) (s : Sto) : tAndD t u ρ s = (t ρ s).bind fun k s1 => if k = true then u ρ s1 else .ok false s1 := rfl
theorem tOrD_ap (t u : Tst) (ρ : Ev) (s : Sto) : tOrD t u ρ s = (t ρ s).bind fun k s1 => if k = true then .ok true s1 else u ρ s1 := rfl
theorem tNotD_ap (t : Tst) (ρ : Ev) (s : Sto) : tNotD t ρ s = (t ρ s).bind fun k s1 => .ok (!k) s1 := rfl
theorem dAnd_ap (fa fb : Exp) (ρ : Ev) (s : Sto) : dAnd fa fb ρ s = (dTst fa ρ s).bind fun k s1 => if k = true then fb ρ s1 else .ok (.bl false) s1 := rfl
theorem dOr_ap (fa fb : Exp) (ρ : Ev) (s : Sto) : dOr fa fb ρ s = (dTst fa ρ s).bind fun k s1 => if k = true then .ok (.bl true) s1 else fb ρ s1 := rfl
theorem dNot_ap (fa : Exp) (ρ : Ev) (s : Sto) : dNot fa ρ s = (dTst fa ρ s).bind fun k s1 => .ok (.bl (!k)) s1 := rfl
theorem dIf_ap (t : Tst) (fa fb : Exp) (ρ : Ev) (s : Sto) : dIf t fa fb ρ s = (t ρ s).bind fun k s1 => if k = true then fa ρ s1 else fb ρ s1 := rfl
theorem aNil_ap (ρ : Ev) (s : Sto) : aNil ρ s = .ok [] s := rfl
theorem aCons_ap (f : Exp) (g : Exps) (ρ : Ev) (s : Sto) : aCons f g ρ s = (f ρ s).bind fun x s1 => (g ρ s1).bind fun xs s2 => .ok (x :: xs) s2 := rfl
theorem dTup_ap (g : Exps) (ρ : Ev) (s : Sto) : dTup g ρ s = (g ρ s).bind fun ds s1 => if ds.length ≤ 16777216 then .ok (.tup ds) s1 else .no := rfl
theorem dLst_ap (g : Exps) (ρ : Ev) (s : Sto) : dLst g ρ s = (g ρ s).bind fun ds s1 => if ds.length ≤ 16777216 then .ok (.lst ds) s1 else .no := rfl
theorem dNew_ap (g : Exps) (ρ : Ev) (s : Sto) : dNew g ρ s = (g ρ s).bind fun ds s1 => if ds.length ≤ 16777216 then .ok (.obj s1.length) (s1 ++ [.lst ds]) else .no := rfl
theorem dB_ap (g : Bf) (fa : Exps) (ρ : Ev) (s : Sto) : dB g fa ρ s = (fa ρ s).bind fun ds s1 => lift (g ds s1) s1 := rfl
theorem dM_ap (T : String) (g : Mf) (fo : Exp) (fa : Exps) (ρ : Ev) (s : Sto) : dM T g fo fa ρ s = (fo ρ s).bind fun x s1 => if tyD T x s1 = true then (fa ρ s1).bind fun ds s2 => mGo (g x ds s2) else .no := rfl
theorem dFn_ap (G : Fn) (fa : Exps) (ρ : Ev) (s : Sto) : dFn G fa ρ s = (fa ρ s).bind G := rfl
theorem dSl_ap (fe : Exp) (fl fh : Prt) (ρ : Ev) (s : Sto) : dSl fe fl fh ρ s = (fe ρ s).bind fun x s1 => (fl ρ s1).bind fun lo s2 => (fh ρ s2).bind fun hi s3 => lift (cutD x lo hi s3) s3 := rfl
theorem dRev_ap (fe : Exp) (ρ : Ev) (s : Sto) : dRev fe ρ s = (fe ρ s).bind fun x s1 => lift (revD x s1) s1 := rfl
theorem oNone_ap (ρ : Ev) (s : Sto) : oNone ρ s = .ok none s := rfl
theorem oSome_ap (f : Exp) (ρ : Ev) (s : Sto) : oSome f ρ s = (f ρ s).bind fun d s1 => match d with
  | .int i => .ok (some i) s1
  | _ => .no := rfl
theorem iSeq_ap (fe : Exp) (ρ : Ev) (s : Sto) : iSeq fe ρ s = (fe ρ s).bind fun d s1 => lift (itemsD s1 d) s1 := rfl
theorem iA_ap (g : List D → Sto → Option (List D × Grd)) (fa : Exps) (ρ : Ev) (s : Sto) : iA g fa ρ s = (fa ρ s).bind fun ds s1 => lift (g ds s1) s1 := rfl
theorem dComp_ap (fi : Itr_) (t : Tg) (c : Tst) (elt : Exp) (vs : List Nat) (ρ : Ev) (s : Sto) : dComp fi t c elt vs ρ s = (fi ρ s).bind fun p s1 => (cmpD t c elt p.2 (wipeD ρ vs) p.1 [] s1).bind fun ds s1 => .ok (.lst ds) s1 := by
  unfold dComp rComp
  cases fi ρ s <;> rfl
theorem dCompNew_ap (fi : Itr_) (t : Tg) (c : Tst) (elt : Exp) (vs : List Nat) (ρ : Ev) (s : Sto) : dCompNew fi t c elt vs ρ s = (fi ρ s).bind fun p s1 => (cmpD t c elt p.2 (wipeD ρ vs) p.1 [] s1).bind fun ds s1 => .ok (.obj s1.length) (s1 ++ [.lst ds]) := by
  unfold dCompNew rComp
  cases fi ρ s <;> rfl
theorem bind_ok {α β : Type} (a : α) (s : Sto) (f : α → Sto → R β) : (R.ok a s).bind f = f a s := rfl
theorem bind_eq {r : R D} {d : D} {s : Sto} {f : D → Sto → R D} (h : r = .ok d s) : r.bind f = f d s := by rw [h]; rfl
theorem toF_ok {α : Type} (a : α) (s : Sto) (ρ : Ev) (f : α → Sto → F) : (R.ok a s).toF ρ f = f a s := rfl
theorem seq_nx (ρ : Ev) (s : Sto) (k : Ev → Sto → F) : (F.nx ρ s).seq k = k ρ s := rfl
theorem seq_rt (d : D) (s : Sto) (k : Ev → Sto → F) : (F.rt d s).seq k = .rt d s := rfl
theorem lift_s {α : Type} (a : α) (s : Sto) : lift (some a) s = .ok a s := rfl
theorem mGo_s (d : D) (s : Sto) : mGo (some (d, s)) = .ok d s := rfl
theorem if_t {α : Type} (a b : α) : (if true = true then a else b) = a := rfl
theorem if_f {α : Type} (a b : α) : (if false = true then a else b) = b := rfl
/-- a comprehension with no effect -/
theorem cmp_pure {t : Tg} {c : Tst} {elt : Exp} {g : Grd} {ρ : Ev} (p : D → Bool) (h : D → D) {s : Sto} (ok : okG g s = true) : ∀ (ds acc : List D), (∀ d ∈ ds, ∃ ρ1, t d ρ s = some (ρ1, s) ∧ c ρ1 s = .ok (p d) s ∧ (p d = true → elt ρ1 s = .ok (h d) s)) → acc.length + ds.length ≤ 16777216 →
    cmpD t c elt g ρ ds acc s = .ok (acc ++ (ds.filter p).map h) s
  | [], acc, _, _ => by rw [cmpD, if_pos ok]; simp
  | d :: ds, acc, H, hl => by
    rw [cmpD, if_pos ok]
    obtain ⟨ρ1, e1, e2, e3⟩ := H d (List.mem_cons_self ..)
    rw [List.length_cons] at hl
    simp only [e1, e2]
    cases hp : p d with
    | true =>
      simp only [e3 hp]
      rw [if_pos (by omega), cmp_pure p h ok ds (acc ++ [h d]) (fun x hx => H x (List.mem_cons_of_mem _ hx)) (by simp; omega)]
      simp [hp]
    | false =>
      simp only
      rw [cmp_pure p h ok ds acc (fun x hx => H x (List.mem_cons_of_mem _ hx)) (by omega)]
      simp [hp]
theorem cmp_all {t : Tg} {elt : Exp} {g : Grd} {ρ : Ev} (h : D → D) {s : Sto} (ok : okG g s = true) (ds : List D) (H : ∀ d ∈ ds, ∃ ρ1, t d ρ s = some (ρ1, s) ∧ elt ρ1 s = .ok (h d) s) (hl : ds.length ≤ 16777216) :
    cmpD t tYesD elt g ρ ds [] s = .ok (ds.map h) s := by
  have := cmp_pure (c := tYesD) (ρ := ρ) (fun _ => true) h ok ds [] (fun d hd => by obtain ⟨ρ1, e1, e2⟩ := H d hd; exact ⟨ρ1, e1, rfl, fun _ => e2⟩) (by simpa using hl)
  rw [this, List.nil_append, List.filter_eq_self.mpr fun _ _ => rfl]
theorem blsD_map {α : Type} (f : α → Bool) : ∀ l : List α, blsD (l.map fun x => .bl (f x)) = some (l.map f)
  | [] => rfl
  | x :: l => by rw [List.map_cons, blsD, blsD_map f l]; rfl
/-! exits -/
theorem fz_old {s : Sto} {n : Nat} {d : D} (h : olds n d = true) (k : Nat) : fz s n k d = some d := by
  cases k with
  | zero => rw [fz, if_pos h]
  | succ k => cases d <;> (unfold fz; rw [if_pos h])
theorem exit_same {s : Sto} {d : D} (h : olds s.length d = true) : exitF s (.rt d s) = .ok d s := by
  show exitV s d s = _
  unfold exitV cleanB
  rw [if_pos (by simp), fz_old h]
  simp
theorem exit_same_nx {s : Sto} {ρ : Ev} : exitF s (.nx ρ s) = .ok .non s := by
  show exitV s .non s = _
  unfold exitV cleanB
  rw [if_pos (by simp), fz_old rfl]
  simp
theorem exit_to {s s' : Sto} {x : List O} {d d' : D} (hl : s'.length = s.length) (hc : s'.all (oldsO s.length) = true) (hf : fz (s' ++ x) s.length 8 d = some d') : exitF s (.rt d (s' ++ x)) = .ok d' s' := by
  show exitV s d (s' ++ x) = _
  unfold exitV cleanB
  have e : (s' ++ x).take s.length = s' := by rw [← hl]; simp
  rw [e, if_pos (by rw [hc]; simp), hf]
theorem runB_ap (np n : Nat) (body : Sm) (ds : List D) (s : Sto) (h : ds.length = np) : runB np n body ds s = exitF s (body (startD n ds) s) := by show runX exitF np n body ds s = _; unfold runX; rw [if_pos h]
theorem runN_ap (np n : Nat) (body : Sm) (ds : List D) (s : Sto) (h : ds.length = np) : runN np n body ds s = exitN s (body (startD n ds) s) := by show runX exitN np n body ds s = _; unfold runX; rw [if_pos h]
/-! kinds of data -/
def kindN : D → Option Int
  | .non => some 0
  | .bl _ => some 1
  | .int _ => some 2
  | .str _ => some 3
  | .tup _ => some 4
  | .lst _ => some 5
  | _ => none
theorem isiT_1 : isiT "bool" = true := by decide +kernel
theorem isiT_2 : isiT "int" = true := by decide +kernel
theorem isiT_3 : isiT "str" = true := by decide +kernel
theorem isiT_4 : isiT "tuple" = true := by decide +kernel
theorem isiT_5 : isiT "list" = true := by decide +kernel
theorem isiB_tab : (isiB "NoneType" "bool" = false ∧ isiB "NoneType" "int" = false ∧ isiB "NoneType" "str" = false ∧ isiB "NoneType" "tuple" = false ∧ isiB "NoneType" "list" = false) ∧
  (isiB "bool" "bool" = true ∧ isiB "bool" "int" = true ∧ isiB "bool" "str" = false ∧ isiB "bool" "tuple" = false ∧ isiB "bool" "list" = false) ∧
  (isiB "int" "bool" = false ∧ isiB "int" "int" = true ∧ isiB "int" "str" = false ∧ isiB "int" "tuple" = false ∧ isiB "int" "list" = false) ∧
  (isiB "str" "bool" = false ∧ isiB "str" "int" = false ∧ isiB "str" "str" = true ∧ isiB "str" "tuple" = false ∧ isiB "str" "list" = false) ∧
  (isiB "tuple" "bool" = false ∧ isiB "tuple" "int" = false ∧ isiB "tuple" "str" = false ∧ isiB "tuple" "tuple" = true ∧ isiB "tuple" "list" = false) ∧
  (isiB "list" "bool" = false ∧ isiB "list" "int" = false ∧ isiB "list" "str" = false ∧ isiB "list" "tuple" = false ∧ isiB "list" "list" = true) := by decide +kernel
/-- pure data, at most n deep -/
def lk : Nat → D → Bool
  | 0, d => match d with
    | .non | .bl _ | .int _ => true
    | .str a => decide (a.length ≤ 65536)
    | _ => false
  | n + 1, d => match d with
    | .non | .bl _ | .int _ => true
    | .str a => decide (a.length ≤ 65536)
    | .tup xs => decide (xs.length ≤ 65536) && xs.all (lk n)
    | .lst xs => decide (xs.length ≤ 65536) && xs.all (lk n)
    | _ => false
theorem lk_kind {n : Nat} {d : D} (h : lk n d = true) : ∃ k, kindN d = some k := by
  cases n <;> cases d <;> simp [lk, kindN] at h ⊢
theorem kind6 {d : D} {k : Int} (h : kindN d = some k) : (k == 6) = false := by
  cases d <;> simp [kindN] at h <;> subst h <;> rfl
theorem pd_int (i : Int) : pd 40 (.int i) = true := rfl
theorem eqD_int (i j : Int) : eqD (.int i) (.int j) = (i == j) := by rw [eqD]
/-- .. less than n deep -/
def lkS : Nat → D → Bool
  | 0, _ => false
  | n + 1, d => lk n d
theorem beq_eq_decide {α : Type} [DecidableEq α] (a b : α) : (a == b) = decide (a = b) := by
  by_cases h : a = b
  · simp [h]
  · simp [h]
theorem leaf_same {n : Nat} {d e : D} {k : Int} (h : lk 0 d = true) (he : lk n e = true) (hk : kindN d = some k) (hk' : kindN e = some k) : lk 0 e = true := by
  cases n <;> cases d <;> simp [lk] at h <;> cases e <;> simp [kindN] at hk hk' <;> (subst hk; simp at hk') <;> simpa [lk] using he
theorem leaf_in {d : D} {k : Int} (h : lk 0 d = true) (hk : kindN d = some k) : ((4 : Int) == k || (5 : Int) == k) = false := by
  cases d <;> simp [lk] at h <;> simp [kindN] at hk <;> subst hk <;> rfl
theorem leaf_dr {d : D} (h : lk 0 d = true) (s : Sto) : dr s d = d := by cases d <;> simp [lk] at h <;> rfl
theorem leaf_pd {d : D} (h : lk 0 d = true) : pd 40 d = true := by cases d <;> simp [lk] at h <;> rfl
theorem leaf_eq {d e : D} {k : Int} (h : lk 0 d = true) (h' : lk 0 e = true) (hk : kindN d = some k) (hk' : kindN e = some k) : eqD d e = decide (d = e) := by
  cases d <;> simp [lk] at h <;> cases e <;> simp [lk] at h' <;> simp [kindN] at hk hk' <;> subst hk <;> simp at hk' <;> simp [eqD] <;> rw [Bool.eq_iff_iff, beq_iff_eq, decide_eq_true_iff]
theorem lk_seq {n : Nat} {d : D} (h : lk n d = true) (hl : ¬ lk 0 d = true) : (∃ xs, d = .tup xs ∧ xs.length ≤ 65536 ∧ xs.all (lkS n) = true) ∨ (∃ xs, d = .lst xs ∧ xs.length ≤ 65536 ∧ xs.all (lkS n) = true) := by
  cases n with
  | zero => exact absurd h hl
  | succ n => cases d <;> simp [lk] at h hl ⊢ <;> first | exact h | omega
theorem lk_tup {n : Nat} {xs : List D} (h : lk n (.tup xs) = true) : xs.length ≤ 65536 ∧ xs.all (lkS n) = true := by
  cases n with
  | zero => simp [lk] at h
  | succ n => simpa [lk, lkS] using h
theorem lk_lst {n : Nat} {xs : List D} (h : lk n (.lst xs) = true) : xs.length ≤ 65536 ∧ xs.all (lkS n) = true := by
  cases n with
  | zero => simp [lk] at h
  | succ n => simpa [lk, lkS] using h
theorem kind_tup {d : D} (h : kindN d = some 4) : ∃ xs, d = .tup xs := by cases d <;> simp [kindN] at h <;> exact ⟨_, rfl⟩
theorem kind_lst {d : D} (h : kindN d = some 5) : ∃ xs, d = .lst xs := by cases d <;> simp [kindN] at h <;> exact ⟨_, rfl⟩
/-- a pair of two unlike things -/
def neP : D → Bool
  | .tup [x, y] => !decide (x = y)
  | _ => false
theorem zipL_mem {xs ys : List D} {d : D} (h : d ∈ zipL xs ys) : ∃ x y, x ∈ xs ∧ y ∈ ys ∧ d = .tup [x, y] := by
  unfold zipL at h
  induction xs generalizing ys with
  | nil => simp at h
  | cons a xs ih =>
    cases ys with
    | nil => simp at h
    | cons b ys =>
      rw [List.zipWith_cons_cons, List.mem_cons] at h
      rcases h with rfl | h
      · exact ⟨a, b, List.mem_cons_self .., List.mem_cons_self .., rfl⟩
      · obtain ⟨x, y, h1, h2, h3⟩ := ih h
        exact ⟨x, y, List.mem_cons_of_mem _ h1, List.mem_cons_of_mem _ h2, h3⟩
theorem pdz : pd 40 (.lst []) = true := rfl
theorem ones_pd (l : List D) : pd 40 (.lst (l.map fun _ => .int 1)) = true := by
  show (l.map fun _ => D.int 1).all (pd 39) = true
  rw [List.all_map, List.all_eq_true]
  exact fun _ _ => rfl
theorem ones_nil (l : List D) : eqD (.lst (l.map fun _ => .int 1)) (.lst []) = l.isEmpty := by
  cases l <;> simp [eqD, eqDs]
theorem ones_eq : ∀ (xs ys : List D), xs.length = ys.length → eqD (.lst (((zipL xs ys).filter neP).map fun _ => .int 1)) (.lst []) = decide (xs = ys)
  | [], [], _ => by simp [zipL, eqD, eqDs]
  | [], _ :: _, h => by simp at h
  | _ :: _, [], h => by simp at h
  | x :: xs, y :: ys, h => by
    have ih := ones_eq xs ys (by simpa using h)
    rw [ones_nil] at ih ⊢
    unfold zipL at ih ⊢
    rw [List.zipWith_cons_cons, List.filter_cons]
    by_cases e : x = y
    · rw [show neP (.tup [x, y]) = false by simp [neP, e]]
      rw [if_neg (by simp), ih]
      simp [e]
    · rw [show neP (.tup [x, y]) = true by simp [neP, e]]
      simp [e]
theorem eqO_int (i j : Int) (s : Sto) : eqO (.int i) (.int j) s = some (.bl (i == j)) := by unfold eqO; simp only [dr, pd_int, and_self, if_true, eqD_int]
theorem neO_int (i j : Int) (s : Sto) : neO (.int i) (.int j) s = some (.bl (!(i == j))) := by unfold neO; simp only [dr, pd_int, and_self, if_true, eqD_int]
theorem eqO_leaf {d e : D} {k : Int} (s : Sto) (h : lk 0 d = true) (h' : lk 0 e = true) (hk : kindN d = some k) (hk' : kindN e = some k) : eqO d e s = some (.bl (decide (d = e))) := by
  unfold eqO
  rw [leaf_dr h, leaf_dr h', leaf_pd h, leaf_pd h', leaf_eq h h' hk hk', if_pos ⟨rfl, rfl⟩]
theorem in45 {k : Int} {b : Bool} {s : Sto} (h : ((4 : Int) == k || (5 : Int) == k) = b) : inO (.int k) (.tup [.int 4, .int 5]) s = some (.bl b) := by
  unfold inO inD
  simp only [sqA, dr, pd_int, List.all_cons, List.all_nil, Bool.and_self, and_self, if_true, List.any_cons, List.any_nil, eqD_int, Bool.or_false, h, Option.map_some]
theorem eqO_pure {s : Sto} {d e : D} {b : Bool} (p : pd 40 d = true) (q : pd 40 e = true) (hd : dr s d = d) (he : dr s e = e) (h : eqD d e = b) : eqO d e s = some (.bl b) := by
  unfold eqO
  rw [hd, he, if_pos ⟨p, q⟩, h]
theorem ones_eqO (s : Sto) (xs ys : List D) (h : xs.length = ys.length) : eqO (.lst (((zipL xs ys).filter neP).map fun _ => .int 1)) (.lst []) s = some (.bl (decide (xs = ys))) := by
  exact eqO_pure (ones_pd _) pdz rfl rfl (ones_eq xs ys h)
theorem lenD_tup (xs : List D) (s : Sto) : lenD [.tup xs] s = some (.int xs.length) := rfl
theorem lenD_lst (xs : List D) (s : Sto) : lenD [.lst xs] s = some (.int xs.length) := rfl
theorem lenD_str (xs : List Nat) (s : Sto) : lenD [.str xs] s = some (.int xs.length) := rfl
theorem zipA_tup (xs ys : List D) (s : Sto) : zipA [.tup xs, .tup ys] s = some (zipL xs ys, []) := rfl
theorem zipA_lst (xs ys : List D) (s : Sto) : zipA [.lst xs, .lst ys] s = some (zipL xs ys, [] ++ []) := rfl
theorem tup_dec (xs ys : List D) : decide (D.tup xs = D.tup ys) = decide (xs = ys) := by simp
theorem lst_dec (xs ys : List D) : decide (D.lst xs = D.lst ys) = decide (xs = ys) := by simp
/-! the cup: the first object of the law -/
abbrev cupO (a b : Int) : O := .lst [.int a, .int b]
def Ck (a b : Int) : Prop := 0 ≤ a ∧ 0 ≤ b ∧ b < 4294967296
def Tk (t : Sto) : Prop := t.all (oldsO (t.length + 1)) = true
theorem atI_mem {α : Type} {xs : List α} {r : Int} (h0 : 0 ≤ r) (h1 : r < (xs.length : Int)) : ∃ d ∈ xs, L2.atI xs r = some d := by
  have hr : r.toNat < xs.length := by omega
  refine ⟨xs[r.toNat], List.getElem_mem hr, ?_⟩
  have := L2.atI_nat (xs := xs) (j := r.toNat) (List.getElem?_eq_getElem hr)
  rwa [Int.toNat_of_nonneg h0] at this
theorem lk_pd : ∀ {n : Nat} {d : D} (k : Nat), lk n d = true → n ≤ k → pd k d = true
  | 0, d, k, h, _ => by cases d <;> simp [lk] at h <;> cases k <;> rfl
  | n + 1, d, 0, h, hk => by omega
  | n + 1, d, k + 1, h, hk => by
    cases d <;> simp [lk] at h <;> simp [pd]
    · exact fun x hx => lk_pd k (h.2 x hx) (by omega)
    · exact fun x hx => lk_pd k (h.2 x hx) (by omega)
theorem oldsL_all {m : Nat} : ∀ {xs : List D}, (∀ x ∈ xs, olds m x = true) → oldsL m xs = true
  | [], _ => rfl
  | x :: xs, h => by rw [oldsL, h x (List.mem_cons_self ..), oldsL_all fun y hy => h y (List.mem_cons_of_mem _ hy)]; rfl
theorem lk_olds : ∀ {n : Nat} {d : D} (m : Nat), lk n d = true → olds m d = true
  | 0, d, m, h => by cases d <;> simp [lk] at h <;> rfl
  | n + 1, d, m, h => by
    cases d <;> simp [lk] at h <;> simp [olds]
    · exact oldsL_all fun x hx => lk_olds m (h.2 x hx)
    · exact oldsL_all fun x hx => lk_olds m (h.2 x hx)
theorem lk_mono : ∀ {n m : Nat} {d : D}, lk n d = true → n ≤ m → lk m d = true
  | 0, m, d, h, _ => by cases d <;> simp [lk] at h <;> cases m <;> simp [lk] <;> exact h
  | n + 1, 0, d, h, hk => by omega
  | n + 1, m + 1, d, h, hk => by
    cases d <;> simp [lk] at h <;> simp [lk]
    · exact h
    · exact ⟨h.1, fun x hx => lk_mono (h.2 x hx) (by omega)⟩
    · exact ⟨h.1, fun x hx => lk_mono (h.2 x hx) (by omega)⟩
theorem eqDs_nil (l : List D) : eqDs l [] = l.isEmpty := by cases l <;> simp [eqDs]
theorem eqO_lnil {l : List D} (s : Sto) (h : l.all (pd 39) = true) : eqO (.lst l) (.lst []) s = some (.bl l.isEmpty) := eqO_pure (by show l.all (pd 39) = true; exact h) pdz rfl rfl (by rw [eqD]; exact eqDs_nil l)
theorem eqO_tnil {l : List D} (s : Sto) (h : l.all (pd 39) = true) : eqO (.tup l) (.tup []) s = some (.bl l.isEmpty) := eqO_pure (by show l.all (pd 39) = true; exact h) rfl rfl rfl (by rw [eqD]; exact eqDs_nil l)
theorem eqO_str (a b : List Nat) (s : Sto) : eqO (.str a) (.str b) s = some (.bl (a == b)) := eqO_pure rfl rfl rfl rfl (by rw [eqD])
theorem neO_pure {s : Sto} {d e : D} {b : Bool} (p : pd 40 d = true) (q : pd 40 e = true) (hd : dr s d = d) (he : dr s e = e) (h : eqD d e = b) : neO d e s = some (.bl (!b)) := by
  unfold neO
  rw [hd, he, if_pos ⟨p, q⟩, h]
theorem neO_lnil {l : List D} (s : Sto) (h : l.all (pd 39) = true) : neO (.lst l) (.lst []) s = some (.bl (!l.isEmpty)) := neO_pure (by show l.all (pd 39) = true; exact h) pdz rfl rfl (by rw [eqD]; exact eqDs_nil l)
theorem neO_tnil {l : List D} (s : Sto) (h : l.all (pd 39) = true) : neO (.tup l) (.tup []) s = some (.bl (!l.isEmpty)) := neO_pure (by show l.all (pd 39) = true; exact h) rfl rfl rfl (by rw [eqD]; exact eqDs_nil l)
theorem neO_str (a b : List Nat) (s : Sto) : neO (.str a) (.str b) s = some (.bl (!(a == b))) := neO_pure rfl rfl rfl rfl (by rw [eqD])
theorem cut_from {α : Type} (xs : List α) (k : Nat) : cut xs (some (k : Int)) none = xs.drop k := by
  unfold cut
  rw [show HT.sIx xs.length 0 (some (k : Int)) = min k xs.length from HT.sIx_nat _ _ _, HT.sIx_none]
  by_cases h : k ≤ xs.length
  · rw [Nat.min_eq_left h, List.take_of_length_le (by rw [List.length_drop]; omega)]
  · rw [Nat.min_eq_right (by omega), List.drop_length, List.drop_eq_nil_of_le (by omega)]; simp
theorem cut_to {α : Type} (xs : List α) (k : Nat) : cut xs none (some (k : Int)) = xs.take k := by
  unfold cut
  rw [show HT.sIx xs.length xs.length (some (k : Int)) = min k xs.length from HT.sIx_nat _ _ _, HT.sIx_none, List.drop_zero, Nat.sub_zero]
  by_cases h : k ≤ xs.length
  · rw [Nat.min_eq_left h]
  · rw [Nat.min_eq_right (by omega), List.take_of_length_le (Nat.le_refl _), List.take_of_length_le (by omega)]
theorem blsD_all {f : D → Bool} (l : List D) (g : D → D) (h : ∀ d ∈ l, g d = .bl (f d)) : blsD (l.map g) = some (l.map f) := by
  induction l with
  | nil => rfl
  | cons x l ih => rw [List.map_cons, h x (List.mem_cons_self ..), blsD, ih fun d hd => h d (List.mem_cons_of_mem _ hd)]; rfl
theorem allD_bl {α : Type} (f : α → Bool) (l : List α) (s : Sto) : allD [.lst (l.map fun x => .bl (f x))] s = some (.bl (l.all f)) := by
  show (blsD (l.map fun x => D.bl (f x))).map _ = _
  rw [blsD_map, Option.map_some, List.all_map]
  rfl
theorem atI0 {α : Type} (x : α) (xs : List α) : L2.atI (x :: xs) 0 = some x := L2.atI_nat (j := 0) rfl
theorem tyD_str (a : List Nat) (s : Sto) : tyD "str" (.str a) s = true := by
  show ("str" == "str") = true
  decide +kernel
theorem findN_neg (c : Nat) (a : List Nat) : findN c a < 0 ↔ c ∉ a := by
  unfold findN
  cases h : a.findIdx? (· == c) with
  | none =>
    rw [List.findIdx?_eq_none_iff] at h
    simp only [show (-1 : Int) < 0 by omega, true_iff]
    exact fun hc => by simpa using h c hc
  | some i =>
    simp only [show ¬ (i : Int) < 0 by omega, false_iff, Decidable.not_not]
    obtain ⟨hi, e, _⟩ := List.findIdx?_eq_some_iff_getElem.mp h
    rw [← beq_iff_eq.mp e]
    exact List.getElem_mem hi
def ltS (d e : D) : Bool := decide ((match d with | .str a => a | _ => []) < (match e with | .str a => a | _ => []))
def risB (xs : List D) : Bool := (zipL xs (xs.drop 1)).all fun p => match p with
  | .tup [x, y] => ltS x y
  | _ => false
theorem risB_range : ∀ xs : List D, risB xs = (List.range (xs.length - 1)).all fun k => ltS (xs.getD k .non) (xs.getD (k + 1) .non)
  | [] => rfl
  | [_] => rfl
  | x :: y :: r => by
    have ih := risB_range (y :: r)
    have e : risB (x :: y :: r) = (ltS x y && risB (y :: r)) := rfl
    rw [e, ih]
    show _ = (List.range (r.length + 1)).all _
    rw [List.range_succ_eq_map, List.all_cons, List.all_map]
    rfl
theorem smI_of' {j : Int} (h : -4611686018427387904 ≤ j) (h' : j < 4611686018427387904) : smI j = true := by
  rw [smI_iff]
  exact ⟨h, h'⟩
/-! loops, with a promise -/
theorem cmp_inv {t : Tg} {elt : Exp} {g : Grd} {ρ : Ev} (I : Sto → Prop) (P : D → Prop) (okI : ∀ s, I s → okG g s = true) : ∀ (ds acc : List D) (s : Sto), I s → (∀ d ∈ ds, ∀ s, I s → ∃ ρ1 x s', t d ρ s = some (ρ1, s) ∧ elt ρ1 s = .ok x s' ∧ I s' ∧ P x) → acc.length + ds.length ≤ 16777216 →
    ∃ xs s', cmpD t tYesD elt g ρ ds acc s = .ok (acc ++ xs) s' ∧ I s' ∧ xs.length = ds.length ∧ ∀ x ∈ xs, P x
  | [], acc, s, hI, _, _ => ⟨[], s, by rw [cmpD, if_pos (okI s hI), List.append_nil], hI, rfl, fun _ h => nomatch h⟩
  | d :: ds, acc, s, hI, H, hl => by
    rw [List.length_cons] at hl
    obtain ⟨ρ1, x, s1, e1, e2, h1, hp⟩ := H d (List.mem_cons_self ..) s hI
    obtain ⟨xs, s', e, h2, l, hx⟩ := cmp_inv I P okI ds (acc ++ [x]) s1 h1 (fun y hy => H y (List.mem_cons_of_mem _ hy)) (by simp; omega)
    refine ⟨x :: xs, s', ?_, h2, by simp [l], fun y hy => ?_⟩
    · rw [cmpD, if_pos (okI s hI)]
      simp only [e1, tYesD, e2]
      rw [if_pos (by omega), e, List.append_assoc]
      rfl
    · rcases List.mem_cons.mp hy with rfl | hy
      · exact hp
      · exact hx y hy
/-- a for: the J of the turn, or a return -/
theorem for_invR {t : Tg} {body : Sm} {g : Grd} (J : Nat → Ev → Sto → Prop) (T : D → Sto → Prop) (okJ : ∀ i ρ s, J i ρ s → okG g s = true) : ∀ (ds : List D) (i : Nat) (ρ : Ev) (s : Sto), J i ρ s →
    (∀ j d, ds[j]? = some d → ∀ ρ s, J (i + j) ρ s → ∃ ρ1 s1, t d ρ s = some (ρ1, s1) ∧ ((∃ ρ2 s2, (body ρ1 s1 = .nx ρ2 s2 ∨ body ρ1 s1 = .ct ρ2 s2) ∧ J (i + j + 1) ρ2 s2) ∨ ∃ d s2, body ρ1 s1 = .rt d s2 ∧ T d s2)) →
    (∃ ρ' s', forD t body g ds ρ s = .nx ρ' s' ∧ J (i + ds.length) ρ' s') ∨ ∃ d s', forD t body g ds ρ s = .rt d s' ∧ T d s'
  | [], i, ρ, s, hJ, _ => .inl ⟨ρ, s, by rw [forD, if_pos (okJ i ρ s hJ)], hJ⟩
  | d :: ds, i, ρ, s, hJ, H => by
    rw [forD, if_pos (okJ i ρ s hJ)]
    obtain ⟨ρ1, s1, e1, h⟩ := H 0 d rfl ρ s hJ
    simp only [e1]
    have go : ∀ ρ2 s2, J (i + 0 + 1) ρ2 s2 → (∃ ρ' s', forD t body g ds ρ2 s2 = .nx ρ' s' ∧ J (i + (d :: ds).length) ρ' s') ∨ ∃ d s', forD t body g ds ρ2 s2 = .rt d s' ∧ T d s' := fun ρ2 s2 h2 => by
      have := for_invR J T okJ ds (i + 1) ρ2 s2 h2 (fun j d' hj ρ s hJ => by
        have := H (j + 1) d' (by simpa using hj) ρ s (by rw [show i + (j + 1) = i + 1 + j by omega]; exact hJ)
        rw [show i + (j + 1) + 1 = i + 1 + j + 1 by omega] at this
        exact this)
      rw [show i + 1 + ds.length = i + (d :: ds).length by simp; omega] at this
      exact this
    rcases h with ⟨ρ2, s2, e | e, h2⟩ | ⟨x, s2, e, h2⟩
    · rw [e]; exact go ρ2 s2 h2
    · rw [e]; exact go ρ2 s2 h2
    · rw [e]; exact .inr ⟨x, s2, rfl, h2⟩
theorem for_inv {t : Tg} {body : Sm} {g : Grd} (J : Nat → Ev → Sto → Prop) (okJ : ∀ i ρ s, J i ρ s → okG g s = true) (ds : List D) (ρ : Ev) (s : Sto) (h0 : J 0 ρ s)
    (H : ∀ j d, ds[j]? = some d → ∀ ρ s, J j ρ s → ∃ ρ1 s1, t d ρ s = some (ρ1, s1) ∧ ∃ ρ2 s2, body ρ1 s1 = .nx ρ2 s2 ∧ J (j + 1) ρ2 s2) :
    ∃ ρ' s', forD t body g ds ρ s = .nx ρ' s' ∧ J ds.length ρ' s' := by
  rcases for_invR J (fun _ _ => False) okJ ds 0 ρ s h0 (fun j d hj ρ s hJ => by
    rw [Nat.zero_add] at hJ ⊢
    obtain ⟨ρ1, s1, e1, ρ2, s2, e2, h⟩ := H j d hj ρ s hJ
    exact ⟨ρ1, s1, e1, .inl ⟨ρ2, s2, .inl e2, h⟩⟩) with ⟨ρ', s', e, h⟩ | ⟨_, _, _, h⟩
  · rw [Nat.zero_add] at h
    exact ⟨ρ', s', e, h⟩
  · exact h.elim
mutual
theorem olds_mono {m m' : Nat} (h : m ≤ m') : ∀ {d : D}, olds m d = true → olds m' d = true
  | .non, _ => rfl
  | .bl _, _ => rfl
  | .int _, _ => rfl
  | .str _, _ => rfl
  | .fn _, _ => rfl
  | .ty _, _ => rfl
  | .dct _, _ => rfl
  | .obj j, e => by
    rw [olds, decide_eq_true_iff] at e ⊢
    omega
  | .tup xs, e => by rw [olds] at e ⊢; exact oldsL_mono h e
  | .lst xs, e => by rw [olds] at e ⊢; exact oldsL_mono h e
  | .fzl xs, e => by rw [olds] at e ⊢; exact oldsL_mono h e
  | .dic t ks xs, e => by rw [olds] at e ⊢; exact oldsL_mono h e
theorem oldsL_mono {m m' : Nat} (h : m ≤ m') : ∀ {xs : List D}, oldsL m xs = true → oldsL m' xs = true
  | [], _ => rfl
  | x :: xs, e => by
    rw [oldsL, Bool.and_eq_true] at e ⊢
    exact ⟨olds_mono h e.1, oldsL_mono h e.2⟩
end
theorem Tk_nil : Tk [] := rfl
theorem Tk_app {t : Sto} {n : Nat} {xs : List D} (h : Tk t) (hx : ∀ x ∈ xs, lk n x = true) : Tk (t ++ [.lst xs]) := by
  unfold Tk at h ⊢
  rw [List.all_append, List.all_cons, List.all_nil, Bool.and_true, Bool.and_eq_true]
  refine ⟨List.all_eq_true.mpr fun o ho => ?_, ?_⟩
  · have := List.all_eq_true.mp h o ho
    cases o with
    | lst ys => exact oldsL_mono (by simp) this
    | dic t ks ys => exact oldsL_mono (by simp) this
  · exact oldsL_all fun x h => lk_olds _ (hx x h)
theorem appD_last {c : O} {t : Sto} {xs : List D} {d : D} (h : xs.length < 16777216) : appD (.obj (t.length + 1)) [d] (c :: (t ++ [.lst xs])) = some (.non, c :: (t ++ [.lst (xs ++ [d])])) := by
  unfold appD
  simp only [List.getElem?_cons_succ, List.getElem?_concat_length, if_pos h, List.set_cons_succ]
  rw [List.set_append_right _ _ (Nat.le_refl _), Nat.sub_self]
  rfl
theorem sqA_last {c : O} {t : Sto} {xs : List D} : sqA (c :: (t ++ [.lst xs])) (.obj (t.length + 1)) = some xs := by
  simp only [sqA, sqL, List.getElem?_cons_succ, List.getElem?_concat_length]
theorem sqL_last {c : O} {t : Sto} {xs : List D} : sqL (c :: (t ++ [.lst xs])) (.obj (t.length + 1)) = some xs := sqA_last
theorem tyD_last {s : Sto} {xs : List D} : tyD "list" (.obj s.length) (s ++ [.lst xs]) = true := by
  unfold tyD
  simp only [List.getElem?_concat_length]
  decide +kernel
theorem tyD_cup {c : O} {t : Sto} {xs : List D} : tyD "list" (.obj (t.length + 1)) (c :: (t ++ [.lst xs])) = true := by
  unfold tyD
  simp only [List.getElem?_cons_succ, List.getElem?_concat_length]
  decide +kernel
theorem addD_lst {a b : List D} (s : Sto) (h : a.length + b.length ≤ 16777216) : addD (.lst a) (.lst b) s = some (.lst (a ++ b)) := by
  unfold addD
  simp only [sqL, if_pos h]
theorem addD_tup {a b : List D} (s : Sto) (h : a.length + b.length ≤ 16777216) : addD (.tup a) (.tup b) s = some (.tup (a ++ b)) := by
  unfold addD
  simp only [if_pos h]
theorem addD_str {a b : List Nat} (s : Sto) (h : a.length + b.length ≤ 16777216) : addD (.str a) (.str b) s = some (.str (a ++ b)) := by
  unfold addD
  simp only [if_pos h]
theorem addD_int (i j : Int) (s : Sto) : addD (.int i) (.int j) s = some (.int (i + j)) := rfl
theorem rng1 {j : Int} (s : Sto) (h : 0 ≤ j) (h2 : j < 1000000) : rng1A [.int j] s = some ((List.range j.toNat).map fun (i : Nat) => .int (0 + i), []) := by
  unfold rng1A
  simp only []
  rw [if_pos (smI_of' (by omega) (by omega))]
theorem rng1_get {n j : Nat} {d : D} (h : ((List.range n).map fun (i : Nat) => D.int (0 + i))[j]? = some d) : j < n ∧ d = .int j := by
  rw [List.getElem?_map] at h
  cases e : (List.range n)[j]? with
  | none => rw [e] at h; cases h
  | some k =>
    rw [e] at h
    obtain ⟨h1, h2⟩ := List.getElem?_eq_some_iff.mp e
    simp at h1 h2
    subst h2
    cases h
    exact ⟨h1, by simp⟩
theorem sPar_ap (i j : Nat) (fa : Exps) (ρ : Ev) (s : Sto) : sPar i j fa ρ s = (fa ρ s).toF ρ fun ds s1 => match ds with
  | [d, e] => .nx ((ρ.set i (some d)).set j (some e)) s1
  | _ => .no := sPar_eq i j fa ρ s
theorem sPar3_ap (i j l : Nat) (fa : Exps) (ρ : Ev) (s : Sto) : sPar3 i j l fa ρ s = (fa ρ s).toF ρ fun ds s1 => match ds with
  | [d, e, f] => .nx (((ρ.set i (some d)).set j (some e)).set l (some f)) s1
  | _ => .no := rfl
/-- a def's end behind draws -/
theorem exit_cup {a b a' b' : Int} {t x : Sto} {d : D} {n : Nat} (ht : Tk t) (hd : lk n d = true) : exitF (cupO a b :: t) (.rt d (cupO a' b' :: (t ++ x))) = .ok d (cupO a' b' :: t) := by
  have := exit_to (s := cupO a b :: t) (s' := cupO a' b' :: t) (x := x) (d := d) (d' := d) rfl (by rw [List.all_cons, show oldsO (cupO a b :: t).length (cupO a' b') = true from rfl]; exact ht) (fz_old (lk_olds _ hd) 8)
  exact this
theorem exit_cup0 {a b a' b' : Int} {t : Sto} {d : D} {n : Nat} (ht : Tk t) (hd : lk n d = true) : exitF (cupO a b :: t) (.rt d (cupO a' b' :: t)) = .ok d (cupO a' b' :: t) := by
  have := exit_cup (a := a) (b := b) (a' := a') (b' := b') (x := []) ht hd
  rwa [List.append_nil] at this
end Z

set_option Elab.async false
set_option linter.all false
set_option maxRecDepth 100000
set_option maxHeartbeats 4000000
namespace Z
open PySem PySem.Spec PyProof.Rows L2
/-! ### zip and enumerate over lists, tuples, texts, any mixed -/
inductive Knd where
  | l (a : Addr) | t (a : Addr) | s (x : Str) (u : Tok)
def Knd.val : Knd → Value
  | .l a => .ref a
  | .t a => .ref a
  | .s x u => .str x u
def Knd.v : Knd → V
  | .l a => .ref a
  | .t a => .ref a
  | .s x _ => .str x
def Knd.ad : Knd → List Addr
  | .l a => [a]
  | .t a => [a]
  | .s _ _ => []
def Knd.obj : Knd → Obj
  | .l a => { cls := .type "list_iterator", data := .fields #[.ref a, .int 0 0] }
  | .t a => { cls := .type "tuple_iterator", data := .fields #[.ref a, .int 0 0] }
  | .s x u => { cls := .type (strIterType x), data := .fields #[.str x u, .int 0 0] }
def Knd.at (k : Knd) (it : Addr) (i : Nat) (h : Heap) : Prop := match k with
  | .l a => h.IsListIter it a i
  | .t a => h.IsTupleIter it a i
  | .s x u => h.IsStrIter it (strIterType x) x u i
def chV (x : Str) : List V := x.cps.toList.map fun c => V.str ⟨#[c]⟩
def SqK (K : PySem.W.Frag) (H : Hp) (k : Knd) (xs : List V) : Prop := match k with
  | .l a => SqL K H a xs
  | .t a => SqT K H a xs
  | .s x _ => xs = chV x
theorem vals_getV : ∀ {xs : List V} {us : List Value} {i : Nat} {u : Value}, Vals xs us → us[i]? = some u → ∃ x, xs[i]? = some x ∧ RelV x u
  | _, _, _, _, .nil, h => by simp at h
  | _, _, 0, u, .cons r t, h => by
    cases h
    exact ⟨_, rfl, r⟩
  | _, _, i + 1, u, .cons r t, h => vals_getV (i := i) t (by simpa using h)
theorem sqk_inj {X : Cx} {pins : List (Addr × Obj)} {σ : L2.St} {H : Hp} {s : Shared} (I : Inv X pins σ H s) {k : Knd} {xs ys : List V} (h : SqK X.K H k xs) (h' : SqK X.K H k ys) : xs = ys := by
  cases k with
  | l a => exact I.list_inj h h'
  | t a => exact I.tuple_inj h h'
  | s x u => exact h.trans h'.symm
theorem Knd.at_of {k : Knd} {it : Addr} {i : Nat} {h h' : Heap} (a : k.at it i h) (e : ∀ o, h.get? it = some o → h'.get? it = some o) : k.at it i h' := by
  cases k with
  | l b => exact Heap.IsListIter.at a e
  | t b => exact Heap.IsTupleIter.at a e
  | s x u => obtain ⟨o, ho, r⟩ := a; exact ⟨o, e o ho, r⟩
theorem Knd.at_obj {k : Knd} {it : Addr} {i : Nat} {h : Heap} (a : k.at it i h) : ∃ o, h.get? it = some o ∧ ∀ v, o.data ≠ .cell v := by
  cases k with
  | l b => obtain ⟨o, ho, hc, hd⟩ := a; exact ⟨o, ho, fun v q => by rw [hd] at q; cases q⟩
  | t b => obtain ⟨o, ho, hc, hd⟩ := a; exact ⟨o, ho, fun v q => by rw [hd] at q; cases q⟩
  | s x u => obtain ⟨o, ho, hc, hd⟩ := a; exact ⟨o, ho, fun v q => by rw [hd] at q; cases q⟩
theorem Knd.at0 {k : Knd} {it : Addr} {h : Heap} (e : h.get? it = some k.obj) : k.at it 0 h := by
  cases k with
  | l b => exact ⟨_, e, rfl, rfl⟩
  | t b => exact ⟨_, e, rfl, rfl⟩
  | s x u => exact ⟨_, e, rfl, rfl⟩
theorem draws_and {prog : Program} {w : World} {A : Around} {it : Addr} {fp : List Addr} {n : Nat} {P : Nat → Value → Prop} {St : Nat → Heap → Prop} (D : Draws prog w A it fp n P St) : Draws prog w A it fp n P (fun i h => St i h ∧ True) where
  live := fun i h st => D.live i h st.1
  frame := fun i h h' st hk => ⟨D.frame i h h' st.1 hk, trivial⟩
  item := fun i s Q E hi st hQ => D.item i s Q E hi st.1 fun x h' tk hp st' sb => hQ x h' tk hp ⟨st', trivial⟩ sb
  done := fun s Q E st hE => D.done s Q E st.1 hE
/-- what an iterator of this kind draws now -/
theorem kind_draws {X : Cx} {pins : List (Addr × Obj)} {σ : L2.St} {H : Hp} {s : Shared} (I : Inv X pins σ H s) (hh : X.A.handled = none) {k : Knd} {xs : List V} (h : SqK X.K H k xs) {it : Addr} (ne : it ∉ k.ad) :
    ∃ (P : Nat → Value → Prop) (C : Heap → Prop), Draws X.prog X.w X.A.in1 it (it :: k.ad) xs.length P (fun i h => k.at it i h ∧ C h) ∧ C s.heap ∧ ∀ i u, P i u → ∃ x, xs[i]? = some x ∧ RelV x u := by
  cases k with
  | l a =>
    obtain ⟨its, rv, p, hz⟩ := I.list h
    have hl : its.toArray.size = xs.length := by rw [List.size_toArray]; exact rv.length.symm
    have D := Draws.list (prog := X.prog) (w := X.w) (A := X.A.in1) hh it a (fun e => ne (by simp [Knd.ad, e])) its.toArray
    rw [hl] at D
    refine ⟨_, fun h => h.IsList a its.toArray, D, p.isList, fun i u hu => ?_⟩
    have hu : its[i]? = some u := by simpa using hu
    obtain ⟨x, hx, r⟩ := vals_getV rv hu
    exact ⟨x, hx, r⟩
  | t a =>
    obtain ⟨its, rv, p, hz⟩ := I.tuple h
    have hl : its.toArray.size = xs.length := by rw [List.size_toArray]; exact rv.length.symm
    have D := Draws.tuple (prog := X.prog) (w := X.w) (A := X.A.in1) hh it a (fun e => ne (by simp [Knd.ad, e])) its.toArray
    rw [hl] at D
    refine ⟨_, fun h => h.IsTuple a its.toArray, D, p, fun i u hu => ?_⟩
    have hu : its[i]? = some u := by simpa using hu
    obtain ⟨x, hx, r⟩ := vals_getV rv hu
    exact ⟨x, hx, r⟩
  | s x u =>
    have hl : x.cps.size = xs.length := by rw [show xs = chV x from h]; simp [chV]
    have D := draws_and (Draws.text (prog := X.prog) (w := X.w) (A := X.A.in1) hh it x u)
    rw [hl] at D
    refine ⟨_, fun _ => True, D, trivial, fun i v ⟨c, t, hc, e⟩ => ?_⟩
    subst e
    refine ⟨.str ⟨#[c]⟩, ?_, t, rfl⟩
    rw [show xs = chV x from h]
    simp [chV, hc]
theorem kind_begins {X : Cx} {pins : List (Addr × Obj)} {σ : L2.St} {H : Hp} {s : Shared} (I : Inv X pins σ H s) {k : Knd} {xs : List V} (h : SqK X.K H k xs) : (∃ C : Heap → Prop, Begins k.val k.obj C ∧ C s.heap) ∧ ∀ a ∈ k.ad, a < s.heap.objs.size := by
  cases k with
  | l a =>
    obtain ⟨its, rv, p, hz⟩ := I.list h
    exact ⟨⟨_, begins_list a its.toArray, p.isList⟩, fun b hb => by rw [List.mem_singleton.mp hb]; exact p.lt⟩
  | t a =>
    obtain ⟨its, rv, p, hz⟩ := I.tuple h
    obtain ⟨o, ho, _⟩ := id p
    exact ⟨⟨_, begins_tuple a its.toArray, p⟩, fun b hb => by rw [List.mem_singleton.mp hb]; exact Heap.lt_size ho⟩
  | s x u => exact ⟨⟨_, begins_text x u, trivial⟩, fun b hb => nomatch hb⟩
/-! zip -/
def ItzK (K : PySem.W.Frag) (k1 k2 : Knd) : It :=
  ⟨fun i H => ∃ (xs ys : List V) (x y : V), SqK K H k1 xs ∧ SqK K H k2 ys ∧ xs[i]? = some x ∧ ys[i]? = some y,
    fun i H v H' => ∃ T x y, v = .ref T ∧ H T = none ∧ H' = upd H T (.tup [x, y]) ∧ (∀ xs, SqK K H k1 xs → xs[i]? = some x) ∧ ∀ ys, SqK K H k2 ys → ys[i]? = some y,
    fun i H => ∃ xs ys : List V, SqK K H k1 xs ∧ SqK K H k2 ys ∧ i ≤ xs.length ∧ i ≤ ys.length ∧ (i = xs.length ∨ i = ys.length)⟩
theorem turn_zipK {P : Program} {w : World} {K : PySem.W.Frag} {elts : List Expr} {kk : Nat} {tpos : Pos} {k1 k2 : Knd} {z TI TO i1 i2 : Addr} (S : ZipSep2 z TI TO i1 i2 (i1 :: k1.ad) (i2 :: k2.ad)) (n1 : i1 ∉ k1.ad) (n2 : i2 ∉ k2.ad) :
    Turn P w K (.Tuple elts kk tpos) (ItzK K k1 k2) [z, TI, TO, i1, i2] z (fun i h => IsZip h z TI TO .none ∧ IsTupOf2 h TI (.ref i1) (.ref i2) ∧ (∃ x y, IsTupOf2 h TO x y) ∧ k1.at i1 i h ∧ k2.at i2 i h) where
  mem := by simp
  obj := fun i h st c hc => by
    obtain ⟨hz, hTI, ⟨x, y, hTO⟩, h1, h2⟩ := st
    have e' : c = z ∨ c = TI ∨ c = TO ∨ c = i1 ∨ c = i2 := by simpa using hc
    rcases e' with q | q | q | q | q
    · rw [q]; exact ⟨_, hz, fun v q => nomatch q⟩
    · rw [q]; exact ⟨_, hTI, fun v q => nomatch q⟩
    · rw [q]; exact ⟨_, hTO, fun v q => nomatch q⟩
    · rw [q]; exact Knd.at_obj h1
    · rw [q]; exact Knd.at_obj h2
  keep := fun i h h' st k => by
    obtain ⟨hz, hTI, ⟨x, y, hTO⟩, h1, h2⟩ := st
    exact ⟨k z (by simp) _ hz, k TI (by simp) _ hTI, ⟨x, y, k TO (by simp) _ hTO⟩, Knd.at_of h1 fun o q => k i1 (by simp) o q, Knd.at_of h2 fun o q => k i2 (by simp) o q⟩
  item := by
    intro X hP hw hK hc i pins s σ H E I hf st hg
    subst hP hw hK
    obtain ⟨hz, hTI, ⟨x0, y0, hTO⟩, h1, h2⟩ := st
    obtain ⟨xs, ys, x, y, hqx, hqy, hx, hy⟩ := hg
    obtain ⟨P1, C1, D1, c1, r1⟩ := kind_draws I (I.ok.hd hc) hqx n1
    obtain ⟨P2, C2, D2, c2, r2⟩ := kind_draws I (I.ok.hd hc) hqy n2
    have hl1 := (List.getElem?_eq_some_iff.mp hx).1
    have hl2 := (List.getElem?_eq_some_iff.mp hy).1
    have hzl : z < s.heap.objs.size := Heap.lt_size hz
    refine wpAny_pyNext_zipD2_item S D1 D2 hz hTI hTO ⟨h1, c1⟩ ⟨h2, c2⟩ hl1 hl2 fun u u2 h' tk p1 p2 z' TO' s1' s2' hT hsz hk => ?_
    obtain ⟨x', hx', ru⟩ := r1 _ _ p1
    obtain ⟨y', hy', ru2⟩ := r2 _ _ p2
    rw [hx] at hx'; cases hx'
    rw [hy] at hy'; cases hy'
    refine ⟨_, rfl, wpAny_letOwnedTupleGo_zip (s := { s with heap := h', toks := tk }) z' fun h'' z'' sb => ?_⟩
    have hT2 : h''.get? s.heap.objs.size = some { cls := .type "tuple", data := .seq #[u, u2] } := (sb.2 _ (Nat.ne_of_gt hzl)).trans hT
    have new : ObjOk X.prog X.w (upd H s.heap.objs.size (.tup [x, y])) h'' s.heap.objs.size (.tup [x, y]) :=
      ⟨by show 2 ≤ sizeLine; decide, [u, u2], .cons ru (.cons ru2 .nil), ⟨_, hT2, rfl, _, rfl⟩⟩
    have I1 : Inv X pins σ (upd H s.heap.objs.size (.tup [x, y])) { s with heap := h'', toks := tk } :=
      I.turnedNew (t' := tk) (ch := [z, TI, TO, i1, i2]) (fun c o hb q => (sb.2 c (fun q' => hb (by simp [q']))).trans (hk c o (fun q' => hb (by simp [q'])) (fun q' => hb (by simp [q'])) (fun q' => hb (by simp [q'])) (fun q' => hb (by simp [q'])) q)) hf (Nat.le_refl _) new
    refine ⟨.ref s.heap.objs.size, _, I1, rfl, ⟨_, x, y, rfl, I.hok.fresh (Nat.le_refl _), rfl, fun l hl => by rw [sqk_inj I hl hqx]; exact hx, fun l hl => by rw [sqk_inj I hl hqy]; exact hy⟩, ⟨z'', ?_, ⟨u, u2, ?_⟩, ?_, ?_⟩, fun c hcm => ?_⟩
    · exact (sb.2 _ S.TIz).trans (hk _ _ S.TIz S.TITO S.TIi1 S.TIi2 hTI)
    · exact (sb.2 _ S.TOz).trans TO'
    · exact Knd.at_of s1'.1 fun o q => (sb.2 _ S.zi1.symm).trans q
    · exact Knd.at_of s2'.1 fun o q => (sb.2 _ S.zi2.symm).trans q
    · have hlt : c < s.heap.objs.size := by
        have e' : c = z ∨ c = TI ∨ c = TO ∨ c = i1 ∨ c = i2 := by simpa using hcm
        rcases e' with q | q | q | q | q
        · rw [q]; exact hzl
        · rw [q]; exact Heap.lt_size hTI
        · rw [q]; exact Heap.lt_size hTO
        · rw [q]; obtain ⟨_, e1, _⟩ := Knd.at_obj h1; exact Heap.lt_size e1
        · rw [q]; obtain ⟨_, e2, _⟩ := Knd.at_obj h2; exact Heap.lt_size e2
      rw [upd_ne (Nat.ne_of_lt hlt)]
      exact (hf c hcm).1
  done := by
    intro X hP hw hK hc i pins s σ H E I hf st hg
    subst hP hw hK
    obtain ⟨hz, hTI, ⟨x0, y0, hTO⟩, h1, h2⟩ := st
    obtain ⟨xs, ys, hqx, hqy, l1, l2, hend⟩ := hg
    obtain ⟨P1, C1, D1, c1, r1⟩ := kind_draws I (I.ok.hd hc) hqx n1
    obtain ⟨P2, C2, D2, c2, r2⟩ := kind_draws I (I.ok.hd hc) hqy n2
    exact wpAny_pyNext_zipD2_end S D1 D2 hz hTI hTO ⟨h1, c1⟩ ⟨h2, c2⟩ l1 l2 hend fun h' tk hk => ⟨rfl, I.turnedL (t' := tk) (ch := [z, TI, TO, i1, i2]) (fun c o hb q =>
      hk c o (fun q' => hb (by simp [q'])) (fun q' => hb (by simp [q'])) (fun q' => hb (by simp [q'])) (fun q' => hb (by simp [q'])) q) hf⟩
  self := fun A i s Q E st h => wpAny_pyIter_zip st.1 h
inductive KC where
  | l | t | s
def Knd.cl : Knd → KC
  | .l _ => .l
  | .t _ => .t
  | .s _ _ => .s
def SqC (K : PySem.W.Frag) (H : Hp) (c : KC) (v : V) (xs : List V) : Prop := match c with
  | .l => ∃ a, v = .ref a ∧ SqL K H a xs
  | .t => ∃ a, v = .ref a ∧ SqT K H a xs
  | .s => ∃ z, v = .str z ∧ xs = chV z
theorem sqc_k {K : PySem.W.Frag} {H : Hp} {c : KC} {v : V} {xs : List V} {u : Value} (h : SqC K H c v xs) (r : RelV v u) : ∃ k : Knd, k.cl = c ∧ k.v = v ∧ k.val = u ∧ SqK K H k xs := by
  cases c with
  | l => obtain ⟨a, rfl, h⟩ := h; obtain rfl : u = .ref a := r; exact ⟨.l a, rfl, rfl, rfl, h⟩
  | t => obtain ⟨a, rfl, h⟩ := h; obtain rfl : u = .ref a := r; exact ⟨.t a, rfl, rfl, rfl, h⟩
  | s => obtain ⟨z, rfl, h⟩ := h; obtain ⟨t, rfl⟩ := r; exact ⟨.s z t, rfl, rfl, rfl, h⟩
def iZipK (K : PySem.W.Frag) (ta : TA) : TI := fun σ H R => ta σ H fun vs H1 => ∃ u v c1 c2 xs ys, vs = [u, v] ∧ SqC K H1 c1 u xs ∧ SqC K H1 c2 v ys ∧ ∀ k1 k2 : Knd, k1.cl = c1 → k1.v = u → k2.cl = c2 → k2.v = v → R (ItzK K k1 k2) H1
theorem ne_nat {m n : Nat} (e : m ≠ n) : m ≠ n := e
theorem nin_new {l : List Addr} {N M : Nat} (h : ∀ a ∈ l, a < N) (hm : N ≤ M) : M ∉ l := fun m => absurd (h M m) (Nat.not_lt.mpr hm)
theorem nin_cons {l : List Addr} {a M : Nat} (h : M ≠ a) (hl : M ∉ l) : M ∉ a :: l := fun m => (List.mem_cons.mp m).elim h hl
theorem sep_new (N : Nat) (k1 k2 : Knd) (h1 : ∀ a ∈ k1.ad, a < N) (h2 : ∀ a ∈ k2.ad, a < N) : ZipSep2 (N + 4) (N + 2) (N + 3) N (N + 1) (N :: k1.ad) ((N + 1) :: k2.ad) where
  TIz := ne_nat (by omega)
  TOz := ne_nat (by omega)
  TITO := ne_nat (by omega)
  TIi1 := ne_nat (by omega)
  mem1 := List.mem_cons_self ..
  zf1 := nin_cons (by omega) (nin_new h1 (by omega))
  Tf1 := nin_cons (by omega) (nin_new h1 (by omega))
  TIi2 := ne_nat (by omega)
  mem2 := List.mem_cons_self ..
  zf2 := nin_cons (by omega) (nin_new h2 (by omega))
  Tf2 := nin_cons (by omega) (nin_new h2 (by omega))
  sep1_2 := nin_cons (by omega) (nin_new h2 (by omega))
  sep2_1 := nin_cons (by omega) (nin_new h1 (by omega))
theorem pi_zipK {X : Cx} {e e2 : Expr} {ta : TA} {p pos tpos : Pos} {elts : List Expr} {kk : Nat} (hg : Gl X "zip") (hm : X.mg "zip" = none) (ha : PA X [e, e2] ta)
    (hs : starEach [e, e2] X.env = (false, eval e X.env) :: starEach [e2] X.env := by rfl) (hpl : (backTo pos (starEach [e2] X.env)).any (·.1) = false := by rfl) :
    PI X (.Tuple elts kk tpos) (.Call (.Name "zip" p) [e, e2] [] pos) (iZipK X.K ta) := by
  refine ⟨fun pins s σ H R I h => ?_⟩
  refine Call_ (ld_blt I hg hm PyProof.Rows.boot_zip (PyProof.Rows.callWith_type1 (thn (ha.run pos pins s σ H _ I h) fun us s1 ⟨vs, H1, I1, r1, q1⟩ => ?_) hs hpl))
  obtain ⟨u, v, c1, c2, xs, ys, rfl, hu, hv, q⟩ := q1
  cases r1 with
  | cons r rr =>
    cases rr with
    | cons r' rr =>
      cases rr
      obtain ⟨k1, e1, e1', rfl, g1⟩ := sqc_k hu r
      obtain ⟨k2, e2, e2', rfl, g2⟩ := sqc_k hv r'
      obtain ⟨⟨C1, B1, b1⟩, a1⟩ := kind_begins I1 g1
      obtain ⟨⟨C2, B2, b2⟩, a2⟩ := kind_begins I1 g2
      refine zip_begins2 B1 B2 b1 b2 fun h' hz hTI hTO h1 h2 hsz hk => wpAny_pyIter_zip hz ?_
      have I2 : Inv X pins σ H1 { s1 with heap := h' } := I1.kept (t' := s1.toks) hk
      have S := sep_new s1.heap.objs.size k1 k2 a1 a2
      refine ⟨s1.heap.objs.size + 4, [s1.heap.objs.size + 4, s1.heap.objs.size + 2, s1.heap.objs.size + 3, s1.heap.objs.size, s1.heap.objs.size + 1], _, _, H1, rfl, I2, turn_zipK S (nin_new a1 (Nat.le_refl _)) (nin_new a2 (Nat.le_succ _)), ⟨hz, hTI, ⟨_, _, hTO⟩, Knd.at0 h1, Knd.at0 h2⟩, fun c hcm => ?_, q k1 k2 e1 e1' e2 e2'⟩
      have e' : c = s1.heap.objs.size + 4 ∨ c = s1.heap.objs.size + 2 ∨ c = s1.heap.objs.size + 3 ∨ c = s1.heap.objs.size ∨ c = s1.heap.objs.size + 1 := by simpa using hcm
      have hle : s1.heap.objs.size ≤ c := by
        rcases e' with z | z | z | z | z
        · rw [z]; exact Nat.le_add_right _ _
        · rw [z]; exact Nat.le_add_right _ _
        · rw [z]; exact Nat.le_add_right _ _
        · rw [z]; exact Nat.le_refl _
        · rw [z]; exact Nat.le_add_right _ _
      exact I1.fpOk hle (I1.hok.fresh hle)
/-! over data -/
def clD : D → KC
  | .tup _ => .t
  | .str _ => .s
  | _ => .l
section
variable {K : PySem.W.Frag} {mg : Str → Option Value} {ι : Io} {H : Hp} {st : Sto}
theorem src_stays {d : D} {v : V} {xs : List D} {g : Grd} (sr : StR K mg H ι st) (r : Rep K mg H ι d v) (e : itemsD st d = some (xs, g)) : ∃ ws, SqC K H (clD d) v ws ∧ Reps K mg H ι xs ws ∧
    ∀ ι2 H2, Adv ι H ι2 H2 → Own H2 ι2 → GrdR K mg g ι2 H2 → ∀ k : Knd, k.cl = clD d → k.v = v → ∃ ws, SqK K H2 k ws ∧ Reps K mg H2 ι2 xs ws := by
  rcases sq_or_tup e with h | ⟨rfl, rfl⟩ | ⟨a, rfl, rfl, rfl⟩
  · obtain ⟨a, vs, rfl, hs, hw⟩ := lst_stays sr r h e
    have hc : clD d = .l := by cases d <;> first | rfl | (simp [sqL] at h)
    obtain ⟨a', vs', e', h1, rr⟩ := rep_sqL sr r h
    cases e'
    refine ⟨vs', by rw [hc]; exact ⟨a, rfl, SqL.of h1⟩, rr, fun ι2 H2 ad ow gr k kc kv => ?_⟩
    obtain ⟨ws, q1, q2⟩ := hw ι2 H2 ad ow gr
    rw [hc] at kc
    cases k with
    | l b => cases kv; exact ⟨ws, SqL.of q1, q2⟩
    | t b => cases kc
    | s x u => cases kc
  · cases r with
    | @tup a vs ds hq rr =>
      refine ⟨vs, ⟨a, rfl, hq⟩, rr, fun ι2 H2 ad ow gr k kc kv => ?_⟩
      cases k with
      | l b => cases kc
      | t b => cases kv; exact ⟨vs, sqT_adv ad sr.own hq, rr.adv ad sr.own⟩
      | s x u => cases kc
  · cases r with
    | str _ hl =>
      have hch : chV ⟨a.toArray⟩ = a.map fun c => V.str ⟨#[c]⟩ := by simp [chV]
      refine ⟨_, ⟨⟨a.toArray⟩, rfl, rfl⟩, by rw [hch]; exact signs_reps a, fun ι2 H2 ad ow gr k kc kv => ?_⟩
      cases k with
      | l b => cases kc
      | t b => cases kc
      | s x u => cases kv; exact ⟨_, rfl, by rw [hch]; exact signs_reps a⟩
theorem walk_zipK {k1 k2 : Knd} {xs ys : List D} {g g' : Grd} (h : ∀ ι2 H2, Adv ι H ι2 H2 → Own H2 ι2 → GrdR K mg g ι2 H2 → ∃ ws, SqK K H2 k1 ws ∧ Reps K mg H2 ι2 xs ws)
    (h' : ∀ ι2 H2, Adv ι H ι2 H2 → Own H2 ι2 → GrdR K mg g' ι2 H2 → ∃ ws, SqK K H2 k2 ws ∧ Reps K mg H2 ι2 ys ws) : WalkD K mg (ItzK K k1 k2) (zipL xs ys) (g ++ g') ι H := fun ι2 H2 ad ow gr => by
  obtain ⟨ws, h1, h2⟩ := h ι2 H2 ad ow fun p hp => gr p (List.mem_append_left _ hp)
  obtain ⟨zs, h3, h4⟩ := h' ι2 H2 ad ow fun p hp => gr p (List.mem_append_right _ hp)
  have l1 := h2.length
  have l2 := h4.length
  have lz : (zipL xs ys).length = min xs.length ys.length := by unfold zipL; simp
  refine ⟨fun i hi => ⟨ws, zs, ws[i]'(by omega), zs[i]'(by omega), h1, h3, by simp [show i < ws.length by omega], by simp [show i < zs.length by omega]⟩, ⟨ws, zs, h1, h3, by omega, by omega, by omega⟩, fun i x H3 hi hy => ?_⟩
  obtain ⟨T, y, z, e1, hT, e3, hx, hz⟩ := hy
  subst e1 e3
  obtain ⟨d, e1, e2⟩ := h2.getV (hx ws h1)
  obtain ⟨d', e3, e4⟩ := h4.getV (hz zs h3)
  refine ⟨fun b o q => by rw [upd_ne (ne_of_none q hT)]; exact q, .tup [d, d'], ?_, pair_new ow hT e2 e4⟩
  unfold zipL
  rw [List.getElem?_zipWith, e1, e3]
end
def zipA2 (ds : List D) (s : Sto) : Option (List D × Grd) := match ds with
  | [d, e] => match itemsD s d, itemsD s e with
    | some (xs, g), some (ys, g') => some (zipL xs ys, g ++ g')
    | _, _ => none
  | _ => none
theorem di_zip2 {X : Cx} {W : WX} {fa : Exps} {p pos tpos : Pos} {elts : List Expr} {kk : Nat} {a b : Expr} (hm : X.mg "zip" = none) (hg : Gl X "zip") (ha : DA X W [a, b] fa) (hs : starEach [a, b] X.env = (false, eval a X.env) :: starEach [b] X.env := by rfl) (hpl : (backTo pos (starEach [b] X.env)).any (·.1) = false := by rfl) : DI X W (.Tuple elts kk tpos) (.Call (.Name "zip" p) [a, b] [] pos) (iA zipA2 fa) :=
  pi_imp (pi_zipK hg hm ha hs hpl) fun σ H RR h => tIA_step h fun vs H1 ι1 s1 ds p sr r e go => by
    unfold zipA2 at e
    split at e
    · split at e
      · rename_i h1 h2
        cases e
        obtain ⟨v, w, rfl, r1, r2⟩ := r.two
        obtain ⟨ws, q1, _, st1⟩ := src_stays sr r1 h1
        obtain ⟨zs, q2, _, st2⟩ := src_stays sr r2 h2
        exact ⟨v, w, _, _, ws, zs, rfl, q1, q2, fun k1 k2 c1 v1 c2 v2 => go _ (walk_zipK (fun ι2 H2 ad ow gr => st1 ι2 H2 ad ow gr k1 c1 v1) (fun ι2 H2 ad ow gr => st2 ι2 H2 ad ow gr k2 c2 v2))⟩
      · cases e
    · cases e
theorem zipA2_tup (xs ys : List D) (s : Sto) : zipA2 [.tup xs, .tup ys] s = some (zipL xs ys, []) := rfl
theorem zipA2_lst (xs ys : List D) (s : Sto) : zipA2 [.lst xs, .lst ys] s = some (zipL xs ys, []) := rfl
/-! enumerate -/
set_option maxHeartbeats 4000000 in
theorem meets_en1 {v : Value} {o : Obj} {H : Heap → Prop} (B : Begins v o H) :
    Meets (Builtin.«enumerate.__new__» ⟨[.type "enumerate", v], []⟩) (fun _ R s => H s.heap ∧
      R (.ok (.ret (.ref (s.heap.push o).objs.size))) { s with heap := (s.heap.push o).push { cls := .type "enumerate", data := .fields #[.none, .bool false, .ref s.heap.objs.size, rawInt 0, .none, .none] } }) :=
  .of_wp fun prog w A R s h => by
    obtain ⟨hp, g, d, tk, os⟩ := s
    obtain ⟨b1, h⟩ := h
    have isub := sub_enumerate
    have go : ∀ {A' : Around} {E : Value → Shared → Prop} {Q : Value → Shared → Prop}, Q (.ref hp.objs.size) ⟨hp.push o, g, d, tk, os⟩ → wpAny (model prog w) A' (pyIter v) Q E ⟨hp, g, d, tk, os⟩ :=
      fun q => B.iter prog w _ _ ⟨hp, g, d, tk, os⟩ _ b1 q
    wp_walk using go
    refine wpAny_stack_any fun st => wpAny_pure ?_
    split
    · rename_i c _ _ _ _ _
      cases (c == Value.type "enumerate")
      · wp_walk using go
        exact ⟨_, rfl, h⟩
      · wp_walk using go
        exact ⟨_, rfl, h⟩
    · wp_walk using go
      exact ⟨_, rfl, h⟩
section
variable {prog : Program} {w : World} {A : Around} {E : Value → Shared → Prop} {s : Shared}
theorem begin_en1 {v : Value} {o : Obj} {H : Heap → Prop} {Q : Value → Shared → Prop} (B : Begins v o H) (b1 : H s.heap)
    (h : ∀ h', IsEnum h' (s.heap.objs.size + 1) s.heap.objs.size 0 .none → h'.get? s.heap.objs.size = some o → (∀ b u, s.heap.get? b = some u → h'.get? b = some u) → Q (.ref (s.heap.objs.size + 1)) { s with heap := h' }) :
    wpAny (model prog w) A (call (.type "enumerate") [v]) Q E s := by
  refine callType_new F.called_enumerate (by decide) (F.typeCall_enumerate_1 _) (F.newCall_enumerate_1 _) (fun obj => F.args_object_init_2 obj _) F.entry_enumerate_new (meets_en1 B) ⟨b1, ?_⟩
  have hz : (s.heap.push o).objs.size = s.heap.objs.size + 1 := Heap.size_push ..
  show _ ∧ _
  rw [hz]
  have he := Heap.get?_push_size (s.heap.push o) (o := { cls := .type "enumerate", data := .fields #[.none, .bool false, .ref s.heap.objs.size, rawInt 0, .none, .none] }) rfl
  rw [hz] at he
  exact ⟨⟨_, he, rfl⟩, h _ he (Heap.get?_push_of_some _ (Heap.get?_push_size _ B.free)) fun b u x => Heap.get?_push_of_some _ (Heap.get?_push_of_some _ x)⟩
end
def IteK (K : PySem.W.Frag) (k : Knd) : It :=
  ⟨fun i H => ∃ (xs : List V) (x : V), SqK K H k xs ∧ xs[i]? = some x, fun i H v H' => ∃ T x, v = .ref T ∧ H T = none ∧ H' = upd H T (.tup [.int (i : Nat), x]) ∧ ∀ xs, SqK K H k xs → xs[i]? = some x, fun i H => ∃ xs : List V, SqK K H k xs ∧ i = xs.length⟩
theorem turn_enK {P : Program} {w : World} {K : PySem.W.Frag} {elts : List Expr} {kk : Nat} {tpos : Pos} {k : Knd} {e it : Addr} (hne : e ≠ it) (ha : e ∉ k.ad) (hi : it ∉ k.ad) :
    Turn P w K (.Tuple elts kk tpos) (IteK K k) [e, it] e (fun i h => (∃ old, IsEnum h e it ((i : Nat) : Int) old) ∧ k.at it i h) where
  mem := by simp
  obj := fun i h st b hb => by
    obtain ⟨⟨old, he⟩, h1⟩ := st
    have e' : b = e ∨ b = it := by simpa using hb
    rcases e' with z | z
    · rw [z]; exact ⟨_, he, fun v q => nomatch q⟩
    · rw [z]; exact Knd.at_obj h1
  keep := fun i h h' st kp => by
    obtain ⟨⟨old, he⟩, h1⟩ := st
    exact ⟨⟨old, kp e (by simp) _ he⟩, Knd.at_of h1 fun o q => kp it (by simp) o q⟩
  item := by
    intro X hP hw hK hc i pins s σ H E I hf st hg
    subst hP hw hK
    obtain ⟨⟨old, he⟩, h1⟩ := st
    obtain ⟨xs, x, hq, hx⟩ := hg
    obtain ⟨P1, C1, D1, c1, r1⟩ := kind_draws I (I.ok.hd hc) hq hi
    have hl1 := (List.getElem?_eq_some_iff.mp hx).1
    have hel : e < s.heap.objs.size := Heap.lt_size he
    have hil : it < s.heap.objs.size := by obtain ⟨_, q, _⟩ := Knd.at_obj h1; exact Heap.lt_size q
    refine wpAny_pyNext_enum_itemC D1 he ⟨h1, c1⟩ hl1 hne (nin_cons hne ha) fun u h' tk p1 ho s1' hT hsz hk => ?_
    obtain ⟨x', hx', ru⟩ := r1 _ _ p1
    rw [hx] at hx'; cases hx'
    refine ⟨_, rfl, wpAny_letOwnedTupleGo_enum (s := { s with heap := h', toks := tk + 1 }) ho fun h'' he' sb => ?_⟩
    have hT2 : h''.get? s.heap.objs.size = some { cls := .type "tuple", data := .seq #[.int i tk, u] } := (sb.2 _ (Nat.ne_of_gt hel)).trans hT
    have new : ObjOk X.prog X.w (upd H s.heap.objs.size (.tup [.int (i : Nat), x])) h'' s.heap.objs.size (.tup [.int (i : Nat), x]) :=
      ⟨by show 2 ≤ sizeLine; decide, [.int i tk, u], .cons ⟨_, rfl⟩ (.cons ru .nil), ⟨_, hT2, rfl, _, rfl⟩⟩
    have I1 : Inv X pins σ (upd H s.heap.objs.size (.tup [.int (i : Nat), x])) { s with heap := h'', toks := tk + 1 } :=
      I.turnedNew (t' := tk + 1) (ch := [e, it]) (fun b ob hb q => (sb.2 b (fun z => hb (by simp [z]))).trans (hk b ob (fun z => hb (by simp [z])) (fun z => hb (by simp [z])) q)) hf (Nat.le_refl _) new
    refine ⟨.ref s.heap.objs.size, _, I1, rfl, ⟨_, x, rfl, I.hok.fresh (Nat.le_refl _), rfl, fun ys hy => by rw [sqk_inj I hy hq]; exact hx⟩, ⟨⟨u, ?_⟩, Knd.at_of s1'.1 fun o q => (sb.2 it (Ne.symm hne)).trans q⟩, fun b hb => ?_⟩
    · have e1 : ((i + 1 : Nat) : Int) = (i : Int) + 1 := by omega
      rw [e1]; exact he'
    · have hb' : b < s.heap.objs.size := by
        have e' : b = e ∨ b = it := by simpa using hb
        rcases e' with z | z
        · rw [z]; exact hel
        · rw [z]; exact hil
      rw [upd_ne (Nat.ne_of_lt hb')]
      exact (hf b hb).1
  done := by
    intro X hP hw hK hc i pins s σ H E I hf st hg
    subst hP hw hK
    obtain ⟨⟨old, he⟩, h1⟩ := st
    obtain ⟨xs, hq, rfl⟩ := hg
    obtain ⟨P1, C1, D1, c1, r1⟩ := kind_draws I (I.ok.hd hc) hq hi
    obtain ⟨f0, f1, f2, f3, f4, f5⟩ := hf it (by simp)
    exact wpAny_pyNext_enum_endD D1 he ⟨h1, c1⟩ fun h' eb => ⟨rfl, I.turned (t' := s.toks) (fun b o hb q => eb b o hb q) f0 f1 f3 f4 f5⟩
  self := fun A i s Q E st h => by
    obtain ⟨⟨_, he⟩, _⟩ := st
    exact wpAny_pyIter_enum he h
def iEnK (K : PySem.W.Frag) (ta : TA) : TI := fun σ H R => ta σ H fun vs H1 => ∃ u c xs, vs = [u] ∧ SqC K H1 c u xs ∧ ∀ k : Knd, k.cl = c → k.v = u → R (IteK K k) H1
theorem pi_enK {X : Cx} {e : Expr} {ta : TA} {p pos tpos : Pos} {elts : List Expr} {kk : Nat} (hg : Gl X "enumerate") (hm : X.mg "enumerate" = none) (ha : PA X [e] ta) (hs : starEach [e] X.env = [(false, eval e X.env)] := by rfl) :
    PI X (.Tuple elts kk tpos) (.Call (.Name "enumerate" p) [e] [] pos) (iEnK X.K ta) := by
  refine ⟨fun pins s σ H R I h => ?_⟩
  refine Call_ (ld_blt I hg hm boot_enumerate (PyProof.Rows.callWith_type1 (thn (ha.run pos pins s σ H _ I h) fun us s1 ⟨vs, H1, I1, r1, q1⟩ => ?_) hs rfl))
  obtain ⟨u, c, xs, rfl, hu, q⟩ := q1
  cases r1 with
  | cons r rr =>
    cases rr
    obtain ⟨k, e1, e1', rfl, g1⟩ := sqc_k hu r
    obtain ⟨⟨C1, B1, b1⟩, a1⟩ := kind_begins I1 g1
    refine begin_en1 B1 b1 fun h' he h1 hk => wpAny_pyIter_enum he ?_
    have I2 : Inv X pins σ H1 { s1 with heap := h' } := I1.kept (t' := s1.toks) hk
    refine ⟨s1.heap.objs.size + 1, [s1.heap.objs.size + 1, s1.heap.objs.size], _, _, H1, rfl, I2, turn_enK (ne_nat (by omega)) (nin_new a1 (Nat.le_succ _)) (nin_new a1 (Nat.le_refl _)), ⟨⟨.none, he⟩, Knd.at0 h1⟩, fun b hb => ?_, q k e1 e1'⟩
    have e' : b = s1.heap.objs.size + 1 ∨ b = s1.heap.objs.size := by simpa using hb
    have hle : s1.heap.objs.size ≤ b := by
      rcases e' with z | z
      · rw [z]; exact Nat.le_add_right _ _
      · rw [z]; exact Nat.le_refl _
    exact I1.fpOk hle (I1.hok.fresh hle)
theorem walk_enK {K : PySem.W.Frag} {mg : Str → Option Value} {ι : Io} {H : Hp} {k : Knd} {xs : List D} {g : Grd} (h : ∀ ι2 H2, Adv ι H ι2 H2 → Own H2 ι2 → GrdR K mg g ι2 H2 → ∃ ws, SqK K H2 k ws ∧ Reps K mg H2 ι2 xs ws) : WalkD K mg (IteK K k) (enumL xs) g ι H := fun ι2 H2 ad ow gr => by
  obtain ⟨ws, h1, h2⟩ := h ι2 H2 ad ow gr
  have hl := h2.length
  have hle : (enumL xs).length = xs.length := by unfold enumL; simp
  refine ⟨fun i hi => ⟨ws, ws[i]'(by omega), h1, by simp [show i < ws.length by omega]⟩, ⟨ws, h1, by omega⟩, fun i x H3 hi hy => ?_⟩
  obtain ⟨T, y, e1, hT, e3, hx⟩ := hy
  subst e1 e3
  obtain ⟨d, e1, e2⟩ := h2.getV (hx ws h1)
  exact ⟨fun b o q => by rw [upd_ne (ne_of_none q hT)]; exact q, _, enumL_get xs i d e1, pair_new ow hT (.int _) e2⟩
def enumA2 (ds : List D) (s : Sto) : Option (List D × Grd) := match ds with
  | [d] => match itemsD s d with
    | some (xs, g) => some (enumL xs, g)
    | none => none
  | _ => none
theorem di_enum2 {X : Cx} {W : WX} {fa : Exps} {p pos tpos : Pos} {elts : List Expr} {kk : Nat} {a : Expr} (hm : X.mg "enumerate" = none) (hg : Gl X "enumerate") (ha : DA X W [a] fa) (hs : starEach [a] X.env = [(false, eval a X.env)] := by rfl) : DI X W (.Tuple elts kk tpos) (.Call (.Name "enumerate" p) [a] [] pos) (iA enumA2 fa) :=
  pi_imp (pi_enK hg hm ha hs) fun σ H RR h => tIA_step h fun vs H1 ι1 s1 ds p sr r e go => by
    unfold enumA2 at e
    split at e
    · split at e
      · rename_i h1
        cases e
        obtain ⟨v, rfl, r1⟩ := r.one
        obtain ⟨ws, q1, _, st1⟩ := src_stays sr r1 h1
        exact ⟨v, _, ws, rfl, q1, fun k c1 v1 => go _ (walk_enK fun ι2 H2 ad ow gr => st1 ι2 H2 ad ow gr k c1 v1)⟩
      · cases e
    · cases e
end Z

set_option Elab.async false
set_option linter.all false
set_option maxRecDepth 100000
set_option maxHeartbeats 2000000
namespace Z
open PySem PySem.Spec PyProof.Rows L2
/-! ### max, min -/
def maxI : Int → List Int → Int
  | a, [] => a
  | a, b :: r => maxI (if a < b then b else a) r
def minI : Int → List Int → Int
  | a, [] => a
  | a, b :: r => minI (if b < a then b else a) r
theorem maxI_spec : ∀ (r : List Int) (a : Int), maxI a r ∈ a :: r ∧ ∀ y ∈ a :: r, y ≤ maxI a r
  | [], a => ⟨List.mem_cons_self .., fun y hy => by simp at hy; subst hy; exact Int.le_refl _⟩
  | b :: r, a => by
    have h := maxI_spec r (if a < b then b else a)
    show maxI (if a < b then b else a) r ∈ _ ∧ ∀ y ∈ _, y ≤ maxI (if a < b then b else a) r
    have h0 := h.2 _ (List.mem_cons_self ..)
    refine ⟨?_, fun y hy => ?_⟩
    · rcases List.mem_cons.mp h.1 with e | e
      · rw [e]; split <;> simp
      · exact List.mem_cons_of_mem _ (List.mem_cons_of_mem _ e)
    · rcases List.mem_cons.mp hy with rfl | hy
      · generalize hM : maxI (if y < b then b else y) r = M at h0 ⊢
        split at h0 <;> omega
      · rcases List.mem_cons.mp hy with rfl | hy
        · generalize hM : maxI (if a < y then y else a) r = M at h0 ⊢
          split at h0 <;> omega
        · exact h.2 y (List.mem_cons_of_mem _ hy)
theorem minI_spec : ∀ (r : List Int) (a : Int), minI a r ∈ a :: r ∧ ∀ y ∈ a :: r, minI a r ≤ y
  | [], a => ⟨List.mem_cons_self .., fun y hy => by simp at hy; subst hy; exact Int.le_refl _⟩
  | b :: r, a => by
    have h := minI_spec r (if b < a then b else a)
    show minI (if b < a then b else a) r ∈ _ ∧ ∀ y ∈ _, minI (if b < a then b else a) r ≤ y
    have h0 := h.2 _ (List.mem_cons_self ..)
    refine ⟨?_, fun y hy => ?_⟩
    · rcases List.mem_cons.mp h.1 with e | e
      · rw [e]; split <;> simp
      · exact List.mem_cons_of_mem _ (List.mem_cons_of_mem _ e)
    · rcases List.mem_cons.mp hy with rfl | hy
      · generalize hM : minI (if b < y then b else y) r = M at h0 ⊢
        split at h0 <;> omega
      · rcases List.mem_cons.mp hy with rfl | hy
        · generalize hM : minI (if y < a then y else a) r = M at h0 ⊢
          split at h0 <;> omega
        · exact h.2 y (List.mem_cons_of_mem _ hy)
def maxD : Bf := fun ds s => match ds with
  | [.int i, .int j] => some (.int (if j > i then j else i))
  | [x] => match sqL s x with
    | some xs => match intsD xs with
      | some (n :: ns) => some (.int (maxI n ns))
      | _ => none
    | none => none
  | _ => none
def minD : Bf := fun ds s => match ds with
  | [.int i, .int j] => some (.int (if j < i then j else i))
  | [x] => match sqL s x with
    | some xs => match intsD xs with
      | some (n :: ns) => some (.int (minI n ns))
      | _ => none
    | none => none
  | _ => none
section
variable {X : Cx}
theorem b_max (hc : X.calm = true) : BfR X (.builtin "max") maxD := by
  intro pins s σ H xs us Q I r ⟨ι, st, ds, d, sr, rr, e, q⟩
  unfold maxD at e
  split at e
  · rename_i i j
    cases e
    obtain ⟨v, w, rfl, r1, r2⟩ := rr.two
    cases r1; cases r2
    exact call_max2 hc pins s σ H _ us Q I r ⟨i, j, rfl, q _ H (Adv.refl _ _) sr (.int _)⟩
  · obtain ⟨v, rfl, r1⟩ := rr.one
    split at e
    · rename_i ys ea
      split at e
      · rename_i n ns eb
        cases e
        obtain ⟨a, vs, rfl, ha, rr⟩ := rep_sqL sr r1 ea
        refine cr_max hc pins s σ H _ us Q I r ⟨a, n :: ns, rfl, by rw [← ints_of rr eb]; exact SqL.of ha, by simp, fun m hm hb => ?_⟩
        obtain ⟨h1, h2⟩ := maxI_spec ns n
        have : m = maxI n ns := Int.le_antisymm (h2 m hm) (hb _ h1)
        subst this
        exact q _ H (Adv.refl _ _) sr (.int _)
      · cases e
    · cases e
  · cases e
theorem b_min (hc : X.calm = true) : BfR X (.builtin "min") minD := by
  intro pins s σ H xs us Q I r ⟨ι, st, ds, d, sr, rr, e, q⟩
  unfold minD at e
  split at e
  · rename_i i j
    cases e
    obtain ⟨v, w, rfl, r1, r2⟩ := rr.two
    cases r1; cases r2
    exact call_min2 hc pins s σ H _ us Q I r ⟨i, j, rfl, q _ H (Adv.refl _ _) sr (.int _)⟩
  · obtain ⟨v, rfl, r1⟩ := rr.one
    split at e
    · rename_i ys ea
      split at e
      · rename_i n ns eb
        cases e
        obtain ⟨a, vs, rfl, ha, rr⟩ := rep_sqL sr r1 ea
        refine cr_min hc pins s σ H _ us Q I r ⟨a, n :: ns, rfl, by rw [← ints_of rr eb]; exact SqL.of ha, by simp, fun m hm hb => ?_⟩
        obtain ⟨h1, h2⟩ := minI_spec ns n
        have : m = minI n ns := Int.le_antisymm (hb _ h1) (h2 m hm)
        subst this
        exact q _ H (Adv.refl _ _) sr (.int _)
      · cases e
    · cases e
  · cases e
end
theorem bt_max : bootBuiltins "max" = some (.builtin "max") := by decide +kernel
theorem bt_min : bootBuiltins "min" = some (.builtin "min") := by decide +kernel
/-! ### new lists of ours from calls -/
abbrev Bn := List D → Sto → Option (List D)
def rBN (K : PySem.W.Frag) (mg : Str → Option Value) (g : Bn) : List V → Hp → VK → Prop := fun vs H Q => ∃ ι s ds xs, StR K mg H ι s ∧ Reps K mg H ι ds vs ∧ g ds s = some xs ∧ ∀ z H' ι', Adv ι H ι' H' → StR K mg H' ι' (s ++ [.lst xs]) → Rep K mg H' ι' (.obj s.length) z → Q z H'
abbrev BnR (X : Cx) (f : Value) (g : Bn) : Prop := CallR X f (rBN X.K X.mg g)
def dBN (g : Bn) (fa : Exps) : Exp := fun ρ s => (fa ρ s).bind fun ds s1 => match g ds s1 with
  | some xs => .ok (.obj s1.length) (s1 ++ [.lst xs])
  | none => .no
def listN : Bn := fun ds s => match ds with
  | [.str a] => some (a.map fun c => .str [c])
  | [.fzl xs] => some xs
  | [x] => sqA s x
  | _ => none
section
variable {X : Cx} {W : WX} {e : Expr} {es : List Expr} {fa : Exps} {p pos : Pos}
theorem tBN_ok {K : PySem.W.Frag} {mg : Str → Option Value} {g : Bn} {σ : L2.St} {H : Hp} {Q : VK} (h : tD K mg W (dBN g fa) σ H Q) : tCB (rBN K mg g) (tDA K mg W fa) σ H Q := by
  obtain ⟨ι, ρ, s, er, sr, q⟩ := h
  refine tDA_step er sr q fun vs H1 ι1 s1 ds er1 sr1 r1 q1 => ?_
  cases ec : g ds s1 with
  | none => rw [ec] at q1; exact (q1 : False).elim
  | some xs =>
    rw [ec] at q1
    exact ⟨ι1, s1, ds, xs, sr1, r1, ec, fun z H' ι' a st r => q1 z H' ι' a st r⟩
theorem de_tyN {g : Bn} {x : Str} {T : String} (hc : BnR X (.type T) g) (hv : bootBuiltins x = some (.type T)) (hm : X.mg x = none) (hg : Gl X x) (ha : DA X W (e :: es) fa) (hn : x ≠ "__name__" := by decide) (hdb : (x == ("__debug__" : Str)) = false := by decide)
    (he : starEach (e :: es) X.env = (false, eval e X.env) :: starEach es X.env := by rfl) (hpl : (backTo pos (starEach es X.env)).any (·.1) = false := by rfl) : DE X W (.Call (.Name x p) (e :: es) [] pos) (dBN g fa) := pe_imp (pe_callTy hc hg hm hv ha hn hdb he hpl) fun _ _ _ h => tBN_ok h
theorem b_listN (hc : X.calm = true) : BnR X (.type "list") listN := by
  intro pins s σ H xs us Q I r ⟨ι, st, ds, ys, sr, rr, e, q⟩
  have fin : ∀ (l : Addr) (vs : List V), H l = none → Reps X.K X.mg H ι ys vs → Q (.ref l) (upd H l (.lst vs)) := fun l vs hl rv => by
    obtain ⟨s1, a⟩ := sr.alloc hl rv
    exact q _ _ _ a s1 (.obj (by rw [← sr.len]; simp))
  unfold listN at e
  split at e
  · rename_i a
    obtain ⟨v, rfl, r1⟩ := rr.one
    cases e
    obtain ⟨u, rfl, rx⟩ := vals1 r
    cases r1 with
    | str _ hl =>
      obtain ⟨t, rfl⟩ := rx
      refine call_list_str (I.ok.hd hc) _ t (fun h' tk acc' c' kp hS hacc => ?_) (by rw [sizeL]; simpa using hl)
      refine ⟨.ref s.heap.objs.size, upd H s.heap.objs.size (.lst (a.map fun c => V.str ⟨#[c]⟩)), I.laid kp (Nat.le_refl _) (show ObjOk X.prog X.w _ h' _ (.lst _) from ⟨by rw [List.length_map, sizeL]; exact hl, acc'.toList, c', signs_vals hacc, by simpa using hS⟩), rfl, ?_⟩
      exact fin _ _ (I.hok.fresh (Nat.le_refl s.heap.objs.size)) (signs_reps a)
  · obtain ⟨v, rfl, r1⟩ := rr.one
    cases e
    cases r1 with
    | @fzl a vs ds hk r2 => exact call_list_of pins s σ H _ us Q I r ⟨a, vs, rfl, .inl (kon_sq hk), fun l hl => fin l vs hl r2⟩
  · obtain ⟨v, rfl, r1⟩ := rr.one
    obtain ⟨a, vs, rfl, hs, rr⟩ := rep_sqA sr r1 e
    exact call_list_of pins s σ H _ us Q I r ⟨a, vs, rfl, hs, fun l hl => fin l vs hl rr⟩
  · cases e
end
end Z

set_option Elab.async false
set_option linter.all false
set_option maxRecDepth 100000
set_option maxHeartbeats 4000000
namespace Z
open PySem PySem.Spec PyProof.Rows L2
open AutoSeq1 (wpAny_loadPart')
/-! ### text * int, int * text, tuple * int of any number -/
def repN {α : Type} (n : Int) (a : List α) : List α := (List.replicate n.toNat a).flatten
theorem fold_rep (a : List Nat) : ∀ (k : Nat) (acc : List Nat), List.foldl (fun x y => x ++ y) acc.toArray (List.replicate k a.toArray) = (acc ++ (List.replicate k a).flatten).toArray
  | 0, acc => by simp
  | k + 1, acc => by
    rw [List.replicate_succ, List.foldl_cons, show acc.toArray ++ a.toArray = (acc ++ a).toArray by simp, fold_rep a k, List.replicate_succ, List.flatten_cons, List.append_assoc]
theorem rep_len {α : Type} (n : Int) (a : List α) : (repN n a).length = n.toNat * a.length := lm_len_rep_flat a n.toNat
section
variable {prog : Program} {w : World} {A : Around} {E : Value → Shared → Prop} {s : Shared}
theorem mulS_post {a : List Nat} {n : Int} {t : Tok} {Q : Value → Shared → Prop} (hl : n.toNat * a.length ≤ 16777216) (h : ∀ t' k, Q (.str ⟨(repN n a).toArray⟩ t') { s with toks := k }) :
    (if n < 1 then Made.str Str.empty else if (n == 1 || (Str.length ⟨a.toArray⟩) == 0) = true then Made.val (.str ⟨a.toArray⟩ t) else Made.str ⟨(List.replicate n.toNat (⟨a.toArray⟩ : Str).cps).foldl (· ++ ·) #[]⟩).post Q s := by
  by_cases h1 : n < 1
  · rw [if_pos h1]
    have e : repN n a = [] := by unfold repN; rw [show n.toNat = 0 by omega]; rfl
    have := h s.toks (s.toks + 1)
    rw [e] at this
    exact ⟨by decide, this⟩
  · rw [if_neg h1]
    by_cases h2 : (n == 1 || (Str.length ⟨a.toArray⟩) == 0) = true
    · rw [if_pos h2]
      have e : repN n a = a := by
        rw [Bool.or_eq_true, beq_iff_eq, beq_iff_eq] at h2
        unfold repN
        rcases h2 with h2 | h2
        · subst h2; simp
        · have : a = [] := by
            have h3 : a.toArray.size = 0 := h2
            simpa using h3
          subst this; simp
      have := h t s.toks
      rw [e] at this
      exact this
    · rw [if_neg h2]
      have e := fold_rep a n.toNat []
      rw [List.nil_append] at e
      have e' : (List.replicate n.toNat (⟨a.toArray⟩ : Str).cps).foldl (· ++ ·) #[] = (repN n a).toArray := e
      rw [e']
      exact ⟨by show (repN n a).toArray.size ≤ sizeLine; rw [List.size_toArray, rep_len, sizeL]; exact hl, h _ _⟩
theorem mul_conds {a : List Nat} {n : Int} (h0 : n ≤ 16777216) (hl : n.toNat * a.length ≤ 16777216) (hlo : -1048576 ≤ n) :
    ((decide (n < -(2 ^ 63 : Int)) || decide (n ≥ 2 ^ 63)) = false) ∧ (¬ n < 1 → (n == 1 || (Str.length ⟨a.toArray⟩) == 0) = false → ¬ (((Str.length ⟨a.toArray⟩ : Nat) : Int) > (2 ^ 63 - 1) / n)) ∧ (¬ n < 1 → (n == 1 || (Str.length ⟨a.toArray⟩) == 0) = false → Builtin.Str.tooLong (Str.length ⟨a.toArray⟩ * n.toNat) = false) := by
  have hs : Str.length ⟨a.toArray⟩ = a.length := by show a.toArray.size = _; simp
  refine ⟨by rw [decide_eq_false (by omega), decide_eq_false (by omega)]; rfl, fun h1 _ => ?_, fun _ _ => ?_⟩
  · rw [hs]
    intro hg
    have h2 : ((2 : Int) ^ 63 - 1) / n < (a.length : Int) := hg
    have h3 : (2 : Int) ^ 63 - 1 < (a.length : Int) * n := (Int.ediv_lt_iff_lt_mul (by omega)).mp h2
    have h4 : ((n.toNat * a.length : Nat) : Int) = (a.length : Int) * n := by
      rw [Int.natCast_mul, Int.toNat_of_nonneg (by omega), Int.mul_comm]
    rw [← h4] at h3
    omega
  · rw [hs]
    unfold Builtin.Str.tooLong
    rw [decide_eq_false (by rw [sizeL, Nat.mul_comm]; omega)]
theorem mul_si {a : List Nat} {n : Int} {t u : Tok} {Q : Value → Shared → Prop} (h0 : n ≤ 16777216) (hl : n.toNat * a.length ≤ 16777216) (hlo : -1048576 ≤ n) (h : ∀ t' k, Q (.str ⟨(repN n a).toArray⟩ t') { s with toks := k }) :
    wpAny (model prog w) A (binaryOp .Mult (.str ⟨a.toArray⟩ t) (.int n u)) Q E s := by
  obtain ⟨c1, c2, c3⟩ := mul_conds h0 hl hlo
  exact PySem.P.mul_str c1 c2 c3 (mulS_post hl h)
theorem mul_is {a : List Nat} {n : Int} {t u : Tok} {Q : Value → Shared → Prop} (h0 : n ≤ 16777216) (hl : n.toNat * a.length ≤ 16777216) (hlo : -1048576 ≤ n) (h : ∀ t' k, Q (.str ⟨(repN n a).toArray⟩ t') { s with toks := k }) :
    wpAny (model prog w) A (binaryOp .Mult (.int n u) (.str ⟨a.toArray⟩ t)) Q E s := by
  obtain ⟨c1, c2, c3⟩ := mul_conds h0 hl hlo
  exact lm_binaryOp_repeat_right (T := "str") (U := "int") (by decide) (fun s' => typeIs_int s' n u) (typeIs_str s ⟨a.toArray⟩ t) F.fills_int_mul noFill_str_mul F.slot_int_mul lm_noRepeat_int repeat_str F.slot_int_index.lookup
    (call_gives F.slot_int_mul (typeIs_int s n u) F.entry_int_mul (F.args_int_mul_2 _ _) (AutoIntG3.int___mul___int_str_0 n u ⟨a.toArray⟩ t)
      ⟨rfl, typeIs_str s ⟨a.toArray⟩ t, call_gives F.slot_str_mul (typeIs_str s ⟨a.toArray⟩ t) F.entry_str_mul (F.args_str_mul_2 _ _) (PySem.gives_str_mul ⟨a.toArray⟩ n t u c1 c2 c3) (mulS_post hl h)⟩)
end
theorem tupSame (l : Addr) (items : Array Value) (n : Nat) (dd : Option Addr) (sl : Array (Option Value)) (x : Int) (u : Tok) (c0 : (decide (x < -(2 ^ 63)) || decide (x ≥ 2 ^ 63)) = false) (c1 : (items.isEmpty || x == 1) = true) :
    Meets (Builtin.«tuple.__mul__» ⟨[.ref l, .int x u], []⟩) (fun _ R s => s.heap.get? l = some { cls := .type "tuple", dict := dd, data := .seq items n, slots := sl } ∧ R (.ok (.ret (Value.ref l))) s) :=
  .of_wp fun prog w A R s h => by
    obtain ⟨hp, g, d, tk, os⟩ := s
    obtain ⟨hl, h⟩ := h
    have f1 := AutoSeq1.idx_int
    wp_walk using wpAny_loadPart' hl
    repeat (first
      | (refine wpAny_ite_false (decide_eq_false (by rw [c0]; exact Bool.false_ne_true)) ?_; wp_walk using wpAny_loadPart' hl)
      | (refine wpAny_ite_true (decide_eq_true c1) ?_; wp_walk using wpAny_loadPart' hl))
    exact ⟨_, rfl, h⟩
theorem tupNone (l : Addr) (items : Array Value) (n : Nat) (dd : Option Addr) (sl : Array (Option Value)) (x : Int) (u : Tok) (c0 : (decide (x < -(2 ^ 63)) || decide (x ≥ 2 ^ 63)) = false) (c1 : (items.isEmpty || x == 1) = false) (c2 : (decide (x ≤ 0) || items.isEmpty) = true) :
    Meets (Builtin.«tuple.__mul__» ⟨[.ref l, .int x u], []⟩) (fun _ R s => s.heap.get? l = some { cls := .type "tuple", dict := dd, data := .seq items n, slots := sl } ∧
      R (.ok (.ret (Value.ref s.heap.objs.size))) { s with heap := s.heap.push { cls := Value.type "tuple", data := Data.seq #[] }, toks := s.toks }) :=
  .of_wp fun prog w A R s h => by
    obtain ⟨hp, g, d, tk, os⟩ := s
    obtain ⟨hl, h⟩ := h
    have f1 := AutoSeq1.idx_int
    wp_walk using wpAny_loadPart' hl
    repeat (first
      | (refine wpAny_ite_false (decide_eq_false (by rw [c0]; exact Bool.false_ne_true)) ?_; wp_walk using wpAny_loadPart' hl)
      | (refine wpAny_ite_false (decide_eq_false (by rw [c1]; exact Bool.false_ne_true)) ?_; wp_walk using wpAny_loadPart' hl)
      | (refine wpAny_ite_true (decide_eq_true c2) ?_; wp_walk using wpAny_loadPart' hl))
    exact ⟨_, rfl, h⟩
def mulD2 : Op := fun x y s => match x, y with
  | .str a, .int n => if -1048576 ≤ n ∧ n ≤ 16777216 ∧ n.toNat * a.length ≤ 16777216 then some (.str (repN n a)) else none
  | .int n, .str a => if -1048576 ≤ n ∧ n ≤ 16777216 ∧ n.toNat * a.length ≤ 16777216 then some (.str (repN n a)) else none
  | .tup a, .int n => if -1048576 ≤ n ∧ n ≤ 1000 ∧ a.length ≤ 1000 then some (.tup (repN n a)) else none
  | x, y => mulD x y s
section
variable {X : Cx}
theorem o_mul2 : Op2 X (binaryOp .Mult) mulD2 := by
  intro pins s σ H x y v u Q I rx ry ⟨ι, st, dx, dy, d, sr, r1, r2, e, q⟩
  unfold mulD2 at e
  split at e
  · rename_i a n
    split at e
    · rename_i hj
      cases e; cases r1; cases r2
      obtain ⟨t, rfl⟩ := rx
      obtain ⟨t', rfl⟩ := ry
      exact mul_si hj.2.1 hj.2.2 hj.1 fun t' k => ⟨.str ⟨_⟩, H, I.kept (t' := k) fun _ _ e => e, ⟨_, rfl⟩, q _ H (Adv.refl _ _) sr (.str _ (by rw [rep_len]; exact hj.2.2))⟩
    · cases e
  · rename_i n a
    split at e
    · rename_i hj
      cases e; cases r1; cases r2
      obtain ⟨t, rfl⟩ := rx
      obtain ⟨t', rfl⟩ := ry
      exact mul_is hj.2.1 hj.2.2 hj.1 fun t' k => ⟨.str ⟨_⟩, H, I.kept (t' := k) fun _ _ e => e, ⟨_, rfl⟩, q _ H (Adv.refl _ _) sr (.str _ (by rw [rep_len]; exact hj.2.2))⟩
    · cases e
  · rename_i a n
    split at e
    · rename_i hj
      obtain ⟨j1, j2, j3⟩ := hj
      cases e; cases r2
      cases r1 with
      | @tup p xs ds hq q1 =>
        by_cases hbig : a ≠ [] ∧ 2 ≤ n
        · exact op_repT pins s σ H _ _ v u Q I rx ry ⟨p, n, xs, rfl, rfl, hq, fun e => by subst e; cases q1; exact hbig.1 rfl, hbig.2, j2, by rw [← q1.length]; exact j3, fun p hp => q _ _ (adv_upd ι hp) (sr.upd hp) (rep_tup' sr (q1.flatten_rep _) hp)⟩
        · obtain rfl : v = .ref p := rx
          obtain ⟨t, rfl⟩ := ry
          obtain ⟨its, r, ⟨⟨cls, dd, data, sl⟩, ho, hc, m, hd⟩, hs⟩ := I.tuple hq
          simp only at hc hd
          subst hc hd
          have hle : its.length = a.length := by rw [← r.length, ← q1.length]
          have c0 : (decide (n < -(2 ^ 63)) || decide (n ≥ 2 ^ 63)) = false := by
            rw [decide_eq_false (by omega), decide_eq_false (by omega)] <;> rfl
          have road : ∀ {Q' : Value → Shared → Prop}, wpAny (model X.prog X.w) X.A (call (.builtin "tuple.__mul__") [.ref p, .int n t]) Q' X.xe s → wpAny (model X.prog X.w) X.A (binaryOp .Mult (.ref p) (.int n t)) Q' X.xe s := fun {Q'} h =>
            wpAny_binaryOp_repeat_ref (T := "tuple") (U := "int") (by decide) ⟨_, ho, rfl⟩ (fun s' => typeIs_int s' n t) L2.noFill_tuple_mul F.fills_int_mul F.slot_int_rmul L2.repeat_tuple F.slot_int_index.lookup
              (call_meets F.slot_int_rmul (typeIs_int s n t) F.entry_int_rmul (F.args_int_rmul_2 _ _) (L2.int_rmul_tuple n t p its.toArray m dd sl) ⟨ho, rfl, ⟨_, ho, rfl⟩, h⟩)
          by_cases hsame : (its.toArray.isEmpty || n == 1) = true
          · have e : repN n a = a := by
              rw [Bool.or_eq_true, beq_iff_eq] at hsame
              unfold repN
              rcases hsame with h | h
              · have h0 : its = [] := by simpa using h
                have : a = [] := List.eq_nil_of_length_eq_zero (by rw [← hle, h0]; rfl)
                subst this; simp
              · subst h; simp
            rw [e] at q
            exact road (call_meets F.slot_tuple_mul ⟨_, ho, rfl⟩ F.entry_tuple_mul (F.args_tuple_mul_2 _ _) (tupSame p its.toArray m dd sl n t c0 hsame) ⟨ho, .ref p, H, I, rfl, q _ H (Adv.refl _ _) sr (.tup hq q1)⟩)
          · have hsame : (its.toArray.isEmpty || n == 1) = false := by simpa using hsame
            have hn0 : n ≤ 0 := by
              rw [Bool.or_eq_false_iff, beq_eq_false_iff_ne] at hsame
              have hne : a ≠ [] := fun e => by
                have : its = [] := List.eq_nil_of_length_eq_zero (by rw [hle, e]; rfl)
                rw [this] at hsame
                exact absurd hsame.1 (by simp)
              have h2 := hsame.2
              have : ¬ 2 ≤ n := fun h => hbig ⟨hne, h⟩
              omega
            have e : repN n a = [] := by unfold repN; rw [show n.toNat = 0 by omega]; rfl
            rw [e] at q
            have hf := I.hok.fresh (Nat.le_refl s.heap.objs.size)
            refine road (call_meets F.slot_tuple_mul ⟨_, ho, rfl⟩ F.entry_tuple_mul (F.args_tuple_mul_2 _ _) (tupNone p its.toArray m dd sl n t c0 hsame (by rw [decide_eq_true hn0]; rfl)) ⟨ho, ?_⟩)
            refine ⟨.ref s.heap.objs.size, _, I.laid (t' := s.toks) (o := .tup []) (fun b ob q => Heap.get?_push_of_some _ q) (Nat.le_refl _) ⟨Nat.zero_le _, [], .nil, IsTup.new _ _⟩, rfl, q _ _ (adv_upd ι hf) (sr.upd hf) (rep_tup' sr .nil hf)⟩
    · cases e
  · exact o_mul pins s σ H x y v u Q I rx ry ⟨ι, st, _, _, d, sr, r1, r2, e, q⟩
end
theorem mulD2_int (i j : Int) (s : Sto) : mulD2 (.int i) (.int j) s = mulD (.int i) (.int j) s := rfl
theorem mul2_si {a : List Nat} {n : Int} (s : Sto) (h : -1048576 ≤ n ∧ n ≤ 16777216 ∧ n.toNat * a.length ≤ 16777216) : mulD2 (.str a) (.int n) s = some (.str (repN n a)) := if_pos h
theorem mul2_is {a : List Nat} {n : Int} (s : Sto) (h : -1048576 ≤ n ∧ n ≤ 16777216 ∧ n.toNat * a.length ≤ 16777216) : mulD2 (.int n) (.str a) s = some (.str (repN n a)) := if_pos h
theorem mul2_tup {a : List D} {n : Int} (s : Sto) (h : -1048576 ≤ n ∧ n ≤ 1000 ∧ a.length ≤ 1000) : mulD2 (.tup a) (.int n) s = some (.tup (repN n a)) := if_pos h
end Z

set_option Elab.async false
set_option linter.all false
set_option maxRecDepth 100000
set_option maxHeartbeats 2000000
namespace Z
open PySem PySem.Spec PyProof.Rows L2
/-! ### sum of a list or a tuple of ints -/
def sumD2 : Bf := fun ds s => match ds with
  | [x] => match sqA s x with
    | some xs => (intsD xs).map fun bs => .int bs.sum
    | none => none
  | _ => none
theorem sumT_raw {prog : Program} {w : World} {A : Around} {E : Value → Shared → Prop} {s : Shared} {l : Addr} {its : List Value} {ns : List Int} {Q : Value → Shared → Prop} (hh : A.handled = none) (hl : s.heap.IsTuple l its.toArray) (hi : IntsAre its ns)
    (h : ∀ h' tk t', (∀ b o, s.heap.get? b = some o → h'.get? b = some o) → Q (.int ns.sum t') { s with heap := h', toks := tk }) : wpAny (model prog w) A (call (.builtin "sum") [.ref l]) Q E s := by
  obtain ⟨xs, e⟩ := hi.allInts.items
  have hn : numsOf (intItems xs).toList = ns := by rw [← e]; exact hi.numsOf
  rw [nums_intItems] at hn
  rw [e] at hl
  refine PySem.W.ktm_sumG hh hl fun h' tk t' hk => ?_
  have := h h' tk t' hk
  rw [preSum_eq, List.take_of_length_le (by simp), hn]; exact this
section
variable {X : Cx}
theorem b_sum2 (hc : X.calm = true) : BfR X (.builtin "sum") sumD2 := by
  intro pins s σ H xs us Q I r ⟨ι, st, ds, d, sr, rr, e, q⟩
  unfold sumD2 at e
  split at e
  · obtain ⟨v, rfl, r1⟩ := rr.one
    split at e
    · rename_i ys ea
      cases eb : intsD ys with
      | none => rw [eb] at e; cases e
      | some bs =>
        rw [eb] at e; cases e
        obtain ⟨a, vs, rfl, ha, rr⟩ := rep_sqA sr r1 ea
        have hv := ints_of rr eb
        subst hv
        rcases ha with ha | ha
        · exact cr_sum hc pins s σ H _ us Q I r ⟨a, bs, rfl, ha, q _ H (Adv.refl _ _) sr (.int _)⟩
        · obtain ⟨its, rv, ht, _⟩ := I.tuple ha
          rw [Vals.ref1 r]
          exact sumT_raw (I.ok.hd hc) ht rv.ints fun h' tk t' hk => ⟨.int _, H, I.kept hk, ⟨_, rfl⟩, q _ H (Adv.refl _ _) sr (.int _)⟩
    · cases e
  · cases e
end
theorem intsD_map (ns : List Int) : intsD (ns.map D.int) = some ns := by
  induction ns with
  | nil => rfl
  | cons n ns ih => rw [List.map_cons, intsD, ih]; rfl
theorem sum2_tup (ns : List Int) (s : Sto) : sumD2 [.tup (ns.map D.int)] s = some (.int ns.sum) := by
  unfold sumD2
  simp only [sqA, intsD_map, Option.map_some]
theorem sum2_lst (ns : List Int) (s : Sto) : sumD2 [.lst (ns.map D.int)] s = some (.int ns.sum) := by
  unfold sumD2
  simp only [sqA, sqL, intsD_map, Option.map_some]
end Z

set_option Elab.async false
set_option linter.all false
set_option maxRecDepth 100000
set_option maxHeartbeats 2000000
namespace Z
open PySem PySem.Spec PyProof.Rows L2
/-! ### {k: v, l: w}[e], four texts -/
def dsub2 (k1 v1 k2 v2 : List Nat) (d : D) : Option D := match d with
  | .str a => if a = k1 then some (.str v1) else if a = k2 then some (.str v2) else none
  | _ => none
def dDS (k1 v1 k2 v2 : List Nat) (fe : Exp) : Exp := fun ρ s => (fe ρ s).bind fun d s1 => lift (dsub2 k1 v1 k2 v2 d) s1
theorem dDS_ap (k1 v1 k2 v2 : List Nat) (fe : Exp) (ρ : Ev) (s : Sto) : dDS k1 v1 k2 v2 fe ρ s = (fe ρ s).bind fun d s1 => lift (dsub2 k1 v1 k2 v2 d) s1 := rfl
theorem uu1 {k : Nat} {A : Around} (hr : Room k A) : A.units + 1 < cLine := by have := hr.un; omega
theorem str_list (x : Str) : x = ⟨x.cps.toList.toArray⟩ := by cases x; simp
section
variable {X : Cx} {W : WX}
theorem de_dsub {e : Expr} {fe : Exp} (k1 v1 k2 v2 : List Nat) {x1 y1 x2 y2 : Str} {p1 p2 p3 p4 p5 pos : Pos} (hu : X.A.units + 1 < cLine) (he : DE X W e fe) (hs : NoSl e)
    (e1 : x1.cps.toList = k1 := by decide +kernel) (e2 : y1.cps.toList = v1 := by decide +kernel) (e3 : x2.cps.toList = k2 := by decide +kernel) (e4 : y2.cps.toList = v2 := by decide +kernel)
    (hn : k1 ≠ k2 := by decide) (h1 : v1.length ≤ 16777216 := by decide) (h2 : v2.length ≤ 16777216 := by decide) :
    DE X W (.Subscript (.Dict [some (.Constant (.str x1) j1 p1), some (.Constant (.str x2) j2 p2)] [.Constant (.str y1) j3 p3, .Constant (.str y2) j4 p4] p5) e pos) (dDS k1 v1 k2 v2 fe) := by
  refine pe_imp (pe_dget hu (pe_disp (pps_cons pe_str pe_str (pps_cons pe_str pe_str pps_nil)) rfl rfl (fun z => by cases z) (by simp)) he hs) fun σ H Q ⟨ι, ρ, s, er, sr, q⟩ => ?_
  intro p hp
  refine ⟨upd_same, [(.inr x1, .str y1), (.inr x2, .str y2)], rfl, by simp, ?_⟩
  have hH : ∀ m : List (Key × V), upd (upd H p (.dK [])) p (.dK m) = upd H p (.dK m) := fun m => by
    funext b
    by_cases hb : b = p
    · subst hb; rw [upd_same, upd_same]
    · rw [upd_ne hb, upd_ne hb, upd_ne hb]
  rw [hH]
  generalize hm : mergeK [] [((.inr x1 : Key), V.str y1), (.inr x2, .str y2)] = m
  have ad : Adv ι H ι (upd H p (.dK m)) := adv_upd ι hp
  refine ⟨ι, ρ, s, er.adv ad sr.own, sr.upd hp, ?_⟩
  unfold dDS at q
  cases ef : fe ρ s with
  | no => rw [ef] at q; exact q
  | exc c s1 =>
    rw [ef] at q
    exact fun cls dx H' ι' a st r => q cls dx H' ι' (ad.trans a) st r
  | ok d s1 =>
    rw [ef] at q
    intro y H4 ι4 a4 st4 r4
    have hpo : p ∉ ι.o := fun hm => by
      obtain ⟨xs, e⟩ := sr.own.1 p hm
      rw [hp] at e; cases e.1
    have hd : H4 p = some (.dK m) := a4.keep p _ upd_same hpo
    cases r4 with
    | str a ha =>
      have q : PoE X.K X.mg W ι H σ (lift (dsub2 k1 v1 k2 v2 (.str a)) s1) Q := q
      have go : ∀ (k v : List Nat) (x w : Str), a = k → x.cps.toList = k → w.cps.toList = v → v.length ≤ 16777216 → valV m (.inr x) = some (.str w) → dsub2 k1 v1 k2 v2 (.str a) = some (.str v) → ∃ a' v', V.ref p = .ref a' ∧ DGet H4 a' (.str ⟨a.toArray⟩) (some v') ∧ Q v' H4 := fun k v x w ea ex ew hv hval hds => by
        subst ea
        rw [hds] at q
        refine ⟨p, .str w, rfl, ?_, q _ H4 ι4 (ad.trans a4) st4 (rep_str ew hv)⟩
        have := DGet.k (k := .inr x) hd
        rw [hval] at this
        have hx : kV (.inr x) = .str ⟨a.toArray⟩ := by rw [← ex]; exact congrArg V.str (str_list x)
        rw [hx] at this
        exact this
      have hne : x1 ≠ x2 := fun h => hn (by rw [← e1, ← e3, h])
      have m1 : m = [(.inr x1, .str y1), (.inr x2, .str y2)] := by
        rw [← hm]
        simp [mergeK, putK, hne]
      by_cases h1' : a = k1
      · exact go k1 v1 x1 y1 h1' e1 e2 h1 (by rw [m1]; simp [valV]) (by simp only [dsub2, if_pos h1'])
      · by_cases h2' : a = k2
        · exact go k2 v2 x2 y2 h2' e3 e4 h2 (by rw [m1]; simp [valV, hne]) (by simp only [dsub2, if_neg h1', if_pos h2'])
        · simp only [dsub2, if_neg h1', if_neg h2'] at q
          exact (q : False).elim
    | _ => exact (q : False).elim
end
end Z

set_option Elab.async false
set_option linter.all false
set_option maxRecDepth 100000
set_option maxHeartbeats 2000000
namespace Z
open L2
/-! ### plain lemmas of use in all laws -/
theorem exB (s : Sto) (b : Bool) : exitF s (.rt (.bl b) s) = .ok (.bl b) s := exit_same rfl
theorem isi_of {d : D} {k : Int} (s : Sto) (h : kindN d = some k) : isiD [d, .ty "tuple"] s = some (.bl (k == 4)) ∧ isiD [d, .ty "str"] s = some (.bl (k == 3)) := by
  cases d <;> simp only [kindN, Option.some.injEq, reduceCtorEq] at h <;> subst h <;> simp only [isiD, tyN, isiT_3, isiT_4, if_true, Option.map_some, isiB_tab] <;> exact ⟨rfl, rfl⟩
def strL (d : D) : List Nat := match d with
  | .str a => a
  | _ => []
theorem all_pd {n k : Nat} {xs : List D} (h : xs.all (lkS n) = true) (hn : n ≤ k + 1) : xs.all (pd k) = true := List.all_eq_true.mpr fun x hx => by
  have := List.all_eq_true.mp h x hx
  cases n with
  | zero => simp [lkS] at this
  | succ n => exact lk_pd k this (by omega)
theorem all_lk {n : Nat} {xs : List D} (h : xs.all (lkS n) = true) : ∀ d ∈ xs, lk n d = true := fun d hd => by
  have := List.all_eq_true.mp h d hd
  cases n with
  | zero => simp [lkS] at this
  | succ n => exact lk_mono (n := n) this (by omega)
theorem filt_pd {k : Nat} {xs : List D} (p : D → Bool) (h : xs.all (pd k) = true) : (xs.filter p).all (pd k) = true := List.all_eq_true.mpr fun x hx => List.all_eq_true.mp h x (List.mem_filter.mp hx).1
theorem filt_emp {xs : List D} (p : D → Bool) : (xs.filter p).isEmpty = xs.all fun x => !p x := by
  induction xs with
  | nil => rfl
  | cons x xs ih =>
    rw [List.filter_cons, List.all_cons]
    cases p x with
    | true => simp
    | false => simp [ih]
def let26 : List Nat := [97, 98, 99, 100, 101, 102, 103, 104, 105, 106, 107, 108, 109, 110, 111, 112, 113, 114, 115, 116, 117, 118, 119, 120, 121, 122]
def dig10 : List Nat := [48, 49, 50, 51, 52, 53, 54, 55, 56, 57]
theorem cutS_to (r : List Nat) (k : Nat) (s : Sto) : cutD (.str r) none (some (k : Int)) s = some (.str (r.take k)) := by
  show some (D.str (cut r none (some (k : Int)))) = _
  rw [cut_to]
theorem cutS_from (r : List Nat) (k : Nat) (s : Sto) : cutD (.str r) (some (k : Int)) none s = some (.str (r.drop k)) := by
  show some (D.str (cut r (some (k : Int)) none)) = _
  rw [cut_from]
theorem cutT_to (r : List D) (k : Nat) (s : Sto) : cutD (.tup r) none (some (k : Int)) s = some (.tup (r.take k)) := by
  show some (D.tup (cut r none (some (k : Int)))) = _
  rw [cut_to]
theorem cutT_from (r : List D) (k : Nat) (s : Sto) : cutD (.tup r) (some (k : Int)) none s = some (.tup (r.drop k)) := by
  show some (D.tup (cut r (some (k : Int)) none)) = _
  rw [cut_from]
theorem lk_str {n : Nat} {a : List Nat} (h : a.length ≤ 65536) : lk n (.str a) = true := by cases n <;> simp [lk] <;> exact h
theorem lk_tupI {n : Nat} {xs : List D} (h : xs.length ≤ 65536) (hx : ∀ x ∈ xs, lk n x = true) : lk (n + 1) (.tup xs) = true := by
  simp only [lk, Bool.and_eq_true, decide_eq_true_eq, List.all_eq_true]
  exact ⟨h, hx⟩
theorem lk_lstI {n : Nat} {xs : List D} (h : xs.length ≤ 65536) (hx : ∀ x ∈ xs, lk n x = true) : lk (n + 1) (.lst xs) = true := by
  simp only [lk, Bool.and_eq_true, decide_eq_true_eq, List.all_eq_true]
  exact ⟨h, hx⟩
theorem forall_cons {P : D → Prop} {x : D} {xs : List D} (h : P x) (hs : ∀ y ∈ xs, P y) : ∀ y ∈ x :: xs, P y := fun y hy => by
  rcases List.mem_cons.mp hy with rfl | hy
  · exact h
  · exact hs y hy
theorem interL_len (a : List Nat) : ∀ ys : List (List Nat), (List.intercalate a ys).length ≤ (ys.map (·.length)).sum + ys.length * a.length
  | [] => by simp [List.intercalate]
  | [y] => by simp [List.intercalate]
  | y :: z :: r => by
    have ih := interL_len a (z :: r)
    have e : List.intercalate a (y :: z :: r) = y ++ (a ++ List.intercalate a (z :: r)) := by simp [List.intercalate]
    rw [e, List.length_append, List.length_append, List.map_cons, List.sum_cons, List.length_cons, Nat.add_mul]
    omega
theorem filter_no (l : List D) : l.filter (fun _ => false) = [] := by simp
theorem mem_cut {xs : List D} {lo hi : Option Int} {x : D} (h : x ∈ cut xs lo hi) : x ∈ xs := List.mem_of_mem_drop (List.mem_of_mem_take h)
theorem cut_len (xs : List D) (lo hi : Option Int) : (cut xs lo hi).length ≤ xs.length := by
  unfold cut
  rw [List.length_take, List.length_drop]
  omega
theorem nodup_le {α : Type} [DecidableEq α] : ∀ {l xs : List α}, l.Nodup → (∀ x ∈ l, x ∈ xs) → l.length ≤ xs.length
  | [], _, _, _ => Nat.zero_le _
  | x :: l, xs, hn, h => by
    have hx := h x (List.mem_cons_self ..)
    obtain ⟨h1, h2⟩ := List.nodup_cons.mp hn
    have := nodup_le (l := l) (xs := xs.erase x) h2 fun y hy => (List.mem_erase_of_ne (fun e => h1 (by rw [← e]; exact hy))).mpr (h y (List.mem_cons_of_mem _ hy))
    rw [List.length_erase_of_mem hx] at this
    have hp : 0 < xs.length := List.length_pos_of_mem hx
    rw [List.length_cons]
    omega
def tab70 : List (List Nat) := [[48], [49], [50], [51], [52], [53], [54], [55], [56], [57], [49, 48], [49, 49], [49, 50], [49, 51], [49, 52], [49, 53], [49, 54], [49, 55], [49, 56], [49, 57], [50, 48], [50, 49], [50, 50], [50, 51], [50, 52], [50, 53], [50, 54], [50, 55], [50, 56], [50, 57], [51, 48], [51, 49], [51, 50], [51, 51], [51, 52], [51, 53], [51, 54], [51, 55], [51, 56], [51, 57], [52, 48], [52, 49], [52, 50], [52, 51], [52, 52], [52, 53], [52, 54], [52, 55], [52, 56], [52, 57], [53, 48], [53, 49], [53, 50], [53, 51], [53, 52], [53, 53], [53, 54], [53, 55], [53, 56], [53, 57], [54, 48], [54, 49], [54, 50], [54, 51], [54, 52], [54, 53], [54, 54], [54, 55], [54, 56], [54, 57]]
theorem tab70_ok : ((List.range 70).map fun (i : Nat) => strI (0 + i)) = tab70 := by decide +kernel
theorem tab70_nd : tab70.Nodup := by decide +kernel
theorem tab70_l : ∀ x ∈ tab70, x.length ≤ 2 := by decide +kernel
def nm70 (i : Nat) : List Nat := tab70.getD i []
theorem strI70 {i : Nat} (hi : i < 70) : strI (0 + (i : Int)) = nm70 i := by
  have h : (tab70)[i]? = some (strI (0 + (i : Int))) := by
    rw [← tab70_ok, List.getElem?_map, List.getElem?_range hi]
    rfl
  unfold nm70
  rw [List.getD_eq_getElem?_getD, h]
  rfl
theorem nm70_l {i : Nat} (hi : i < 70) : (nm70 i).length ≤ 2 := by
  rw [← strI70 hi]
  refine tab70_l _ ?_
  rw [← tab70_ok]
  exact List.mem_map.mpr ⟨i, List.mem_range.mpr hi, rfl⟩
theorem nm70_nd : ((List.range 70).map nm70).Nodup := by
  have : (List.range 70).map nm70 = tab70 := by
    rw [← tab70_ok]
    exact List.map_congr_left fun i hi => (strI70 (List.mem_range.mp hi)).symm
  rw [this]
  exact tab70_nd
theorem strD70 {i : Nat} (hi : i < 70) (s : Sto) : strD [.int (0 + (i : Int))] s = some (.str (nm70 i)) := by
  have hc : c64 (0 + (i : Int)) = true := by rw [c64_iff]; omega
  have hl := nm70_l hi
  rw [← strI70 hi] at hl ⊢
  unfold strD
  simp only []
  rw [if_pos ⟨hc, by omega⟩]
/-- texts of at most 13 signs -/
def Txts (xs : List D) : Prop := ∀ x ∈ xs, ∃ r, x = .str r ∧ r.length ≤ 13
theorem Txts.lk {xs : List D} (h : Txts xs) : ∀ x ∈ xs, Z.lk 0 x = true := fun x hx => by
  obtain ⟨r, rfl, hl⟩ := h x hx
  simp [Z.lk]
  omega
theorem Txts.pd {xs : List D} (h : Txts xs) : xs.all (Z.pd 40) = true := List.all_eq_true.mpr fun x hx => lk_pd 40 (h.lk x hx) (by omega)
theorem nin_ok {xs : List D} {s : Sto} {d : D} (r : List Nat) (hd : ∀ a, d ≠ .str a) (h : sqA s d = some xs) (hx : Txts xs) : ninO (.str r) d s = some (.bl (!xs.any fun z => eqD z (.str r))) := by
  have hp : Z.pd 40 (dr s (.str r)) = true ∧ xs.all (Z.pd 40) = true := ⟨rfl, hx.pd⟩
  have : inD (.str r) d s = some (xs.any fun z => eqD z (.str r)) := by
    unfold inD
    cases d <;> first | exact absurd rfl (hd _) | (simp only [h, if_pos hp]; rfl)
  unfold ninO
  rw [this]
  rfl
theorem nodup_map {α β : Type} {f : α → β} (hf : ∀ a b, f a = f b → a = b) : ∀ {l : List α}, l.Nodup → (l.map f).Nodup
  | [], _ => List.nodup_nil
  | x :: l, h => by
    obtain ⟨h1, h2⟩ := List.nodup_cons.mp h
    rw [List.map_cons, List.nodup_cons]
    refine ⟨fun hm => ?_, nodup_map hf h2⟩
    obtain ⟨y, hy, e⟩ := List.mem_map.mp hm
    exact h1 (by rw [← hf _ _ e]; exact hy)
theorem srt_ok {xs : List D} (h : Txts xs) : srtOk xs = true := by
  unfold srtOk
  rw [Bool.and_eq_true, Bool.and_eq_true, Bool.or_eq_true]
  refine ⟨⟨h.pd, List.all_eq_true.mpr fun x hx => List.all_eq_true.mpr fun y hy => ?_⟩, .inr (List.all_eq_true.mpr fun x hx => ?_)⟩
  · obtain ⟨r, rfl, _⟩ := h x hx
    obtain ⟨q, rfl, _⟩ := h y hy
    simp only [toPy, PySem.W.alike]
  · obtain ⟨r, rfl, _⟩ := h x hx
    rfl
theorem Txts.cut {xs : List D} (h : Txts xs) (lo hi : Option Int) : Txts (Z.cut xs lo hi) := fun x hx => h x (mem_cut hx)
theorem Txts.app {xs ys : List D} (h : Txts xs) (h' : Txts ys) : Txts (xs ++ ys) := fun x hx => (List.mem_append.mp hx).elim (h x) (h' x)
theorem Txts.rev {xs : List D} (h : Txts xs) : Txts xs.reverse := fun x hx => h x (List.mem_reverse.mp hx)
theorem Txts.tup {xs : List D} (h : Txts xs) (hl : xs.length ≤ 1000) {n : Nat} : Z.lk (n + 1) (.tup xs) = true := lk_tupI (by omega) fun x hx => lk_mono (h.lk x hx) (by omega)
theorem Txts.lst {xs : List D} (h : Txts xs) (hl : xs.length ≤ 1000) {n : Nat} : Z.lk (n + 1) (.lst xs) = true := lk_lstI (by omega) fun x hx => lk_mono (h.lk x hx) (by omega)
def wordB (v : D) (signs : List Nat) (lo hi : Int) : Bool := match v with
  | .str a => decide (lo ≤ a.length) && (decide ((a.length : Int) ≤ hi) && a.all (fun c => decide (c ∈ signs)))
  | _ => false
theorem wordB_str {p : D} {signs : List Nat} {lo hi : Int} (h : wordB p signs lo hi = true) : ∃ a, p = .str a ∧ lo ≤ a.length ∧ (a.length : Int) ≤ hi ∧ ∀ c ∈ a, c ∈ signs := by
  cases p <;> simp [wordB] at h
  exact ⟨_, rfl, h.1, h.2.1, h.2.2⟩
def nameB' (L M : List Nat) (v : D) : Bool := wordB v (L ++ M) 1 12 && decide ((strL v).headD 0 ∈ L)
def nameB (v : D) : Bool := nameB' let26 dig10 v
theorem nameB_str {v : D} (h : nameB v = true) : ∃ a, v = .str a := by
  unfold nameB nameB' at h
  rw [Bool.and_eq_true] at h
  obtain ⟨a, e, _⟩ := wordB_str h.1
  exact ⟨a, e⟩
theorem nameB_of {L M r : List Nat} (h1 : 1 ≤ r.length) (h2 : r.length ≤ 12) (h3 : r.headD 0 ∈ L) (h4 : ∀ c ∈ r, c ∈ L ++ M) : nameB' L M (.str r) = true := by
  unfold nameB'
  rw [Bool.and_eq_true]
  refine ⟨?_, decide_eq_true h3⟩
  simp only [wordB, Bool.and_eq_true, decide_eq_true_eq, List.all_eq_true]
  exact ⟨by omega, by omega, h4⟩
theorem tab70_d : ∀ x ∈ tab70, ∀ c ∈ x, c ∈ dig10 := by decide +kernel
theorem nm70_dig {i : Nat} (hi : i < 70) : ∀ c ∈ nm70 i, c ∈ dig10 := by
  rw [← strI70 hi]
  refine tab70_d _ ?_
  rw [← tab70_ok]
  exact List.mem_map.mpr ⟨i, List.mem_range.mpr hi, rfl⟩
/-! ### any store whose things are old -/
def Sk (s : Sto) : Prop := s.all (oldsO s.length) = true
theorem Sk_nil : Sk [] := rfl
theorem Sk_cup {a b : Int} {t : Sto} (ht : Tk t) : Sk (cupO a b :: t) := by
  unfold Sk
  rw [List.all_cons, show oldsO (cupO a b :: t).length (cupO a b) = true from rfl]
  exact ht
theorem Sk_app {s : Sto} {n : Nat} {xs : List D} (h : Sk s) (hx : ∀ x ∈ xs, lk n x = true) : Sk (s ++ [.lst xs]) := by
  unfold Sk at h ⊢
  rw [List.all_append, List.all_cons, List.all_nil, Bool.and_true, Bool.and_eq_true]
  refine ⟨List.all_eq_true.mpr fun o ho => ?_, ?_⟩
  · have := List.all_eq_true.mp h o ho
    cases o with
    | lst ys => exact oldsL_mono (by simp) this
    | dic t ks ys => exact oldsL_mono (by simp) this
  · exact oldsL_all fun x h => lk_olds _ (hx x h)
theorem appE {s : Sto} {xs : List D} {d : D} (h : xs.length < 16777216) : appD (.obj s.length) [d] (s ++ [.lst xs]) = some (.non, s ++ [.lst (xs ++ [d])]) := by
  unfold appD
  simp only [List.getElem?_concat_length, if_pos h]
  rw [List.set_append_right _ _ (Nat.le_refl _), Nat.sub_self]
  rfl
theorem sqE {s : Sto} {xs : List D} : sqL (s ++ [.lst xs]) (.obj s.length) = some xs := by
  simp only [sqL, List.getElem?_concat_length]
theorem sqAE {s : Sto} {xs : List D} : sqA (s ++ [.lst xs]) (.obj s.length) = some xs := sqE
theorem exitE {s x : Sto} {d : D} {n : Nat} (hs : Sk s) (hd : lk n d = true) : exitF s (.rt d (s ++ x)) = .ok d s :=
  exit_to rfl hs (fz_old (lk_olds _ hd) 8)
theorem exitE0 {s : Sto} {d : D} {n : Nat} (hd : lk n d = true) : exitF s (.rt d s) = .ok d s := exit_same (lk_olds _ hd)
theorem mapO_old {s : Sto} {n k : Nat} : ∀ {xs : List D}, (∀ x ∈ xs, olds n x = true) → mapO (fz s n k) xs = some xs
  | [], _ => rfl
  | x :: xs, h => by simp only [mapO, fz_old (h x (List.mem_cons_self ..)) k, mapO_old fun y hy => h y (List.mem_cons_of_mem _ hy)]
theorem fz_obj {s : Sto} {xs : List D} {k : Nat} (hx : ∀ x ∈ xs, olds s.length x = true) : fz (s ++ [.lst xs]) s.length (k + 1) (.obj s.length) = some (.lst xs) := by
  simp only [fz, olds, Nat.lt_irrefl, decide_false, Bool.false_eq_true, if_false, List.getElem?_concat_length, mapO_old hx, Option.map_some]
theorem exit_obj {s : Sto} {xs : List D} (hs : Sk s) (hx : ∀ x ∈ xs, olds s.length x = true) : exitF s (.rt (.obj s.length) (s ++ [.lst xs])) = .ok (.lst xs) s :=
  exit_to rfl hs (fz_obj hx)
theorem exit_pair {s : Sto} {xs : List D} {e : D} (hs : Sk s) (hx : ∀ x ∈ xs, olds s.length x = true) (he : olds s.length e = true) : exitF s (.rt (.tup [.obj s.length, e]) (s ++ [.lst xs])) = .ok (.tup [.lst xs, e]) s := by
  refine exit_to rfl hs ?_
  have h0 : olds s.length (.obj s.length) = false := by simp only [olds, Nat.lt_irrefl, decide_false]
  rw [fz, if_neg (by simp only [olds, oldsL, Nat.lt_irrefl, decide_false, Bool.false_and, Bool.false_eq_true, not_false_eq_true])]
  simp only [mapO, fz_obj hx, fz_old he, Option.map_some]
theorem ints_olds {n : Nat} (ns : List Int) : ∀ x ∈ ns.map D.int, olds n x = true := fun x hx => by
  obtain ⟨i, _, rfl⟩ := List.mem_map.mp hx
  rfl
theorem ints_lk {n : Nat} (ns : List Int) : ∀ x ∈ ns.map D.int, lk n x = true := fun x hx => by
  obtain ⟨i, _, rfl⟩ := List.mem_map.mp hx
  cases n <;> rfl
theorem sum_snoc (xs : List Int) (t : Int) : (xs ++ [t]).sum = xs.sum + t := by
  induction xs with
  | nil => simp
  | cons x xs ih => simp only [List.cons_append, List.sum_cons, ih]; omega
end Z

set_option Elab.async false
set_option linter.all false
set_option maxRecDepth 100000
set_option maxHeartbeats 2000000
namespace Z
open L2
/-! ### more plain lemmas -/
theorem take_snoc {α : Type} {xs : List α} {i : Nat} {x : α} (h : xs[i]? = some x) : xs.take (i + 1) = xs.take i ++ [x] := by rw [List.take_succ, h]; rfl
theorem map_get {ts : List Int} {i : Nat} {d : D} (h : (ts.map D.int)[i]? = some d) : ∃ t, ts[i]? = some t ∧ d = .int t := by
  rw [List.getElem?_map] at h
  cases e : ts[i]? with
  | none => rw [e] at h; cases h
  | some t => rw [e] at h; cases h; exact ⟨t, rfl, rfl⟩
theorem cut1 (r : List D) (s : Sto) : cutD (.tup r) (some 1) none s = some (.tup (r.drop 1)) := cutT_from r 1 s
theorem zipL_len (xs ys : List D) : (zipL xs ys).length ≤ xs.length := by unfold zipL; rw [List.length_zipWith]; omega
theorem eqDs_ints : ∀ a b : List Int, eqDs (a.map D.int) (b.map D.int) = (a == b)
  | [], [] => rfl
  | [], b :: bs => rfl
  | a :: as, [] => rfl
  | a :: as, b :: bs => by
    rw [List.map_cons, List.map_cons, eqDs, eqDs_ints as bs, eqD_int]
    rfl
theorem ints_pd {k : Nat} (a : List Int) : (a.map D.int).all (pd k) = true := List.all_eq_true.mpr fun d hd => by
  obtain ⟨i, _, rfl⟩ := List.mem_map.mp hd
  cases k <;> rfl
theorem eqO_ints (a b : List Int) (s : Sto) : eqO (.lst (a.map D.int)) (.lst (b.map D.int)) s = some (.bl (a == b)) :=
  eqO_pure (by show (a.map D.int).all (pd 39) = true; exact ints_pd a) (by show (b.map D.int).all (pd 39) = true; exact ints_pd b) rfl rfl (by rw [eqD]; exact eqDs_ints a b)
theorem cut_mid {α : Type} (xs : List α) {i j : Nat} (hi : i ≤ xs.length) (hj : j ≤ xs.length) : cut xs (some (i : Int)) (some (j : Int)) = (xs.drop i).take (j - i) := by
  unfold cut
  rw [show HT.sIx xs.length 0 (some (i : Int)) = min i xs.length from HT.sIx_nat _ _ _, show HT.sIx xs.length xs.length (some (j : Int)) = min j xs.length from HT.sIx_nat _ _ _, Nat.min_eq_left hi, Nat.min_eq_left hj]
theorem rng2 {i j : Nat} (s : Sto) (h : i < 1000000) (h2 : j < 1000000) : rng2A [.int (i : Int), .int (j : Int)] s = some ((List.range (j - i)).map fun (k : Nat) => .int ((i : Int) + k), []) := by
  unfold rng2A
  simp only []
  rw [if_pos ⟨smI_of' (by omega) (by omega), smI_of' (by omega) (by omega)⟩, show ((j : Int) - (i : Int)).toNat = j - i by omega]
theorem repl_flat (x : Int) : ∀ n : Nat, (List.replicate n [D.int x]).flatten = (List.replicate n x).map D.int
  | 0 => rfl
  | n + 1 => by rw [List.replicate_succ, List.replicate_succ, List.flatten_cons, repl_flat x n]; rfl
theorem isS {d : D} {k : Int} (s : Sto) (h : kindN d = some k) : isiD [d, .ty "str"] s = some (.bl (k == 3)) := (isi_of s h).2
theorem isT {d : D} {k : Int} (s : Sto) (h : kindN d = some k) : isiD [d, .ty "tuple"] s = some (.bl (k == 4)) := (isi_of s h).1
theorem atI1 {α : Type} (x y : α) (r : List α) : atI (x :: y :: r) 1 = some y := atI_nat (j := 1) rfl
theorem enumL_mem {xs : List D} {d : D} (h : d ∈ enumL xs) : ∃ (i : Nat) (x : D), xs[i]? = some x ∧ d = .tup [.int (i : Int), x] := by
  obtain ⟨i, hi, e⟩ := List.mem_iff_getElem.mp h
  have hl : (enumL xs).length ≤ xs.length := by unfold enumL; rw [List.length_zipWith]; omega
  have := enumL_get xs i _ (List.getElem?_eq_getElem (by omega : i < xs.length))
  rw [List.getElem?_eq_getElem hi, e] at this
  exact ⟨i, _, List.getElem?_eq_getElem (by omega), Option.some.inj this⟩
theorem enumL_len (xs : List D) : (enumL xs).length = xs.length := by unfold enumL; rw [List.length_zipWith, List.length_range]; omega
def rngL (n : Nat) : List D := (List.range n).map fun (i : Nat) => .int (0 + i)
theorem rngL_mem {n : Nat} {d : D} (h : d ∈ rngL n) : ∃ i : Nat, i < n ∧ d = .int (0 + (i : Int)) := by
  obtain ⟨i, hi, rfl⟩ := List.mem_map.mp h
  exact ⟨i, List.mem_range.mp hi, rfl⟩
theorem rngL_len (n : Nat) : (rngL n).length = n := by rw [rngL, List.length_map, List.length_range]
theorem rng1L {n : Nat} (s : Sto) (h : n < 1000000) : rng1A [.int (n : Int)] s = some (rngL n, []) := by
  rw [rng1 _ (by omega) (by omega), Int.toNat_natCast]; rfl
theorem strsD_map (f : D → List Nat) : ∀ l : List D, strsD (l.map fun d => .str (f d)) = some (l.map f)
  | [] => rfl
  | x :: l => by rw [List.map_cons, strsD, strsD_map f l]; rfl
theorem sum_one (f : D → List Nat) (hf : ∀ d, (f d).length = 1) : ∀ l : List D, ((l.map f).map (·.length)).sum = l.length
  | [] => rfl
  | x :: l => by rw [List.map_cons, List.map_cons, List.sum_cons, sum_one f hf l, hf, List.length_cons]; omega
theorem eqO_bl (a b : Bool) (s : Sto) : eqO (.bl a) (.bl b) s = some (.bl (a == b)) := eqO_pure rfl rfl rfl rfl (by rw [eqD])
theorem nilA {P : D → Prop} : ∀ x ∈ ([] : List D), P x := fun _ h => nomatch h
theorem lkT1 {n : Nat} {x : D} (hx : lk n x = true) : lk (n + 1) (.tup [x]) = true := lk_tupI (by simp) (forall_cons hx nilA)
theorem lkT2 {n : Nat} {x y : D} (hx : lk n x = true) (hy : lk n y = true) : lk (n + 1) (.tup [x, y]) = true := lk_tupI (by simp) (forall_cons hx <| forall_cons hy nilA)
theorem lkL2 {n : Nat} {x y : D} (hx : lk n x = true) (hy : lk n y = true) : lk (n + 1) (.lst [x, y]) = true := lk_lstI (by simp) (forall_cons hx <| forall_cons hy nilA)
theorem cutT1 (r : List D) (s : Sto) : cutD (.tup r) none (some 1) s = some (.tup (r.take 1)) := cutT_to r 1 s
theorem app_all {P : D → Prop} {a b : List D} (ha : ∀ x ∈ a, P x) (hb : ∀ x ∈ b, P x) : ∀ x ∈ a ++ b, P x := fun x hx => (List.mem_append.mp hx).elim (ha x) (hb x)
theorem repN_mem {a : List D} {n : Int} {x : D} (h : x ∈ repN n a) : x ∈ a := by
  unfold repN at h
  obtain ⟨l, hl, hx⟩ := List.mem_flatten.mp h
  rw [(List.mem_replicate.mp hl).2] at hx
  exact hx
theorem unmap {α β : Type} {f : α → β} {Q : α → Prop} : ∀ {xs : List β}, (∀ x ∈ xs, ∃ a, x = f a ∧ Q a) → ∃ as : List α, xs = as.map f ∧ as.length = xs.length ∧ ∀ a ∈ as, Q a
  | [], _ => ⟨[], rfl, rfl, fun _ h => nomatch h⟩
  | x :: xs, h => by
    obtain ⟨a, rfl, ha⟩ := h x (List.mem_cons_self ..)
    obtain ⟨as, rfl, hl, hq⟩ := unmap (xs := xs) fun y hy => h y (List.mem_cons_of_mem _ hy)
    refine ⟨a :: as, rfl, by simp, fun y hy => ?_⟩
    rcases List.mem_cons.mp hy with rfl | hy
    · exact ha
    · exact hq y hy
theorem ite_ok {α : Type} {c : Bool} (x y : α) (s : Sto) : (if c = true then R.ok x s else R.ok y s) = R.ok (if c = true then x else y) s := by cases c <;> rfl
theorem mapR (x : Int) (n : Nat) : repN (n : Int) [D.int x] = (List.replicate n x).map D.int := by
  unfold repN
  rw [Int.toNat_natCast]
  exact repl_flat x n
end Z

set_option Elab.async false
set_option linter.all false
set_option maxRecDepth 100000
set_option maxHeartbeats 2000000
namespace Z
open PySem PySem.Spec PyProof.Rows L2 RZ
/-! ### len(set(xs)), xs a list of ints -/
def ddp (ns : List Int) : List Int := ns.foldl step_dedup []
def lenSetD (d : D) (s : Sto) : Option D := match sqL s d with
  | some xs => match intsD xs with
    | some ns => if ns.length ≤ 4000 then some (.int (ddp ns).length) else none
    | none => none
  | none => none
def dLenSet (fe : Exp) : Exp := fun ρ s => (fe ρ s).bind fun d s1 => lift (lenSetD d s1) s1
theorem dLenSet_ap (fe : Exp) (ρ : Ev) (s : Sto) : dLenSet fe ρ s = (fe ρ s).bind fun d s1 => lift (lenSetD d s1) s1 := rfl
theorem ddp_of (ns : List Int) : firstMet (fun i => ns.getD i 0) ns.length = ddp ns := by
  unfold firstMet ddp
  congr 1
  refine List.ext_getElem (by simp) fun i h1 h2 => ?_
  simp at h1
  rw [List.getElem_map, List.getElem_range, List.getD_eq_getElem?_getD, List.getElem?_eq_getElem h1]
  rfl
theorem ddp_len (ns : List Int) : (ddp ns).length ≤ ns.length := by rw [← ddp_of]; exact firstMet_length_le _ _
/-- what one value brings -/
theorem tD_one {K : PySem.W.Frag} {mg : Str → Option Value} {W : WX} {fe : Exp} {g : D → Sto → Option D} {σ : L2.St} {H : Hp} {Q : VK} (h : tD K mg W (fun ρ s => (fe ρ s).bind fun d s1 => lift (g d s1) s1) σ H Q) :
    tD K mg W fe σ H fun x H1 => ∃ ι s d d', StR K mg H1 ι s ∧ Rep K mg H1 ι d x ∧ g d s = some d' ∧ ∀ z H', Adv ι H1 ι H' → StR K mg H' ι s → Rep K mg H' ι d' z → Q z H' := by
  obtain ⟨ι, ρ, s, er, sr, q⟩ := h
  refine ⟨ι, ρ, s, er, sr, ?_⟩
  have q : PoE K mg W ι H σ ((fe ρ s).bind fun d s1 => lift (g d s1) s1) Q := q
  cases ef : fe ρ s with
  | no => rw [ef] at q; exact q
  | exc c s1 => rw [ef] at q; exact q
  | ok d s1 =>
    rw [ef] at q
    intro x H1 ι1 a1 st1 r1
    cases eg : g d s1 with
    | none =>
      have q : PoE K mg W ι H σ (lift (g d s1) s1) Q := q
      rw [eg] at q; exact (q : False).elim
    | some d' =>
      have q : PoE K mg W ι H σ (lift (g d s1) s1) Q := q
      rw [eg] at q
      exact ⟨ι1, s1, d, d', st1, r1, eg, fun z H' a st r => q z H' ι1 (a1.trans a) st r⟩
section
variable {X : Cx} {W : WX}
theorem de_lenSet {a : Expr} {fe : Exp} {p p2 q pos : Pos} (hg : Gl X "len") (hm : X.mg "len" = none) (hg2 : Gl X "set") (hm2 : X.mg "set" = none) (ha : DE X W a fe) (hc : X.calm = true := by rfl)
    (na : starEach [a] X.env = (false, eval a X.env) :: starEach [] X.env := by rfl) : DE X W (.Call (.Name "len" p) [.Call (.Name "set" p2) [a] [] q] [] pos) (dLenSet fe) := by
  refine ⟨fun pins s σ H Q I h => ?_⟩
  have h := tD_one h
  refine Call_ (ld_blt I hg hm boot_len ?_)
  refine PyProof.Rows.callWith_builtin1 (PyProof.Rows.args_cons ?_ rfl) rfl rfl
  refine Call_ (ld_blt I hg2 hm2 boot_set ?_)
  refine PyProof.Rows.callWith_type1 (PyProof.Rows.args_cons (thn (ha.run pins s σ H _ I h) fun v s1 ⟨x, H1, I1, r1, q1⟩ => PyProof.Rows.args_nil ?_) na) na rfl
  obtain ⟨ι, st, d, d', sr, rp, e, q1⟩ := q1
  unfold lenSetD at e
  cases ea : sqL st d with
  | none => rw [ea] at e; cases e
  | some xs =>
    rw [ea] at e
    cases eb : intsD xs with
    | none => simp only [eb] at e; cases e
    | some ns =>
      simp only [eb] at e
      split at e
      · rename_i hl
        cases e
        obtain ⟨l, vs, rfl, ha, rr⟩ := rep_sqL sr rp ea
        have hv := ints_of rr eb
        subst hv
        cases r1
        obtain ⟨its, r, pl, hz⟩ := I1.list (SqL.of ha)
        have hlen : its.toArray.size = ns.length := by rw [List.size_toArray, ← r.length, List.length_map]
        refine call_set_list (I1.ok.hd hc) pl.isList (by simpa using intsAre_vals r) (by rw [hlen]; unfold scanBound; omega) fun h' tk hS hk => ?_
        refine PyProof.Rows.args_nil ?_
        rw [hlen, ddp_of] at hS
        obtain ⟨o, es, ep, t, ho, hex, hd, _, _, _, hf, hn⟩ := hS
        have hdl := ddp_len ns
        have I2 : Inv X pins σ H1 { s1 with heap := h', toks := tk } := I1.kept fun b o e => hk b o (Heap.lt_size e) e
        exact call_len_set ho hex hd hf (by rw [hn] <;> omega) ⟨.int (ddp ns).length, H1, I2.tok _, ⟨_, by rw [hn]⟩, q1 _ H1 (Adv.refl _ _) sr (.int _)⟩
      · cases e
/-! ### tuple(range(n)), list(range(n)) -/
def rgL (n : Int) : List D := (List.range n.toNat).map fun (i : Nat) => .int (0 + i)
def tupRgD (d : D) (_ : Sto) : Option D := match d with
  | .int n => if n ≤ 1048576 ∧ -1048576 ≤ n then some (.tup (rgL n)) else none
  | _ => none
def listRgD (d : D) (_ : Sto) : Option D := match d with
  | .int n => if n ≤ 1048576 ∧ -1048576 ≤ n then some (.lst (rgL n)) else none
  | _ => none
def dTupRg (fe : Exp) : Exp := fun ρ s => (fe ρ s).bind fun d s1 => lift (tupRgD d s1) s1
def dListRg (fe : Exp) : Exp := fun ρ s => (fe ρ s).bind fun d s1 => lift (listRgD d s1) s1
theorem dTupRg_ap (fe : Exp) (ρ : Ev) (s : Sto) : dTupRg fe ρ s = (fe ρ s).bind fun d s1 => lift (tupRgD d s1) s1 := rfl
theorem dListRg_ap (fe : Exp) (ρ : Ev) (s : Sto) : dListRg fe ρ s = (fe ρ s).bind fun d s1 => lift (listRgD d s1) s1 := rfl
theorem rg_reps {K : PySem.W.Frag} {mg : Str → Option Value} {H : Hp} {ι : Io} (n : Int) : Reps K mg H ι (rgL n) (rgV 0 n) := by
  unfold rgL rgV
  rw [Int.sub_zero]
  generalize List.range n.toNat = l
  induction l with
  | nil => exact .nil
  | cons i l ih => exact .cons (.int _) ih
theorem rg_okz {n : Int} (h1 : n ≤ 1048576) (h2 : -1048576 ≤ n) : RgOk 0 n := ⟨by omega, by omega, by omega, by omega, by omega⟩
theorem de_tupRg {a : Expr} {fe : Exp} {p p2 q pos : Pos} (hg : Gl X "tuple") (hm : X.mg "tuple" = none) (hg2 : Gl X "range") (hm2 : X.mg "range" = none) (ha : DE X W a fe) (hc : X.calm = true := by rfl)
    (na : starEach [a] X.env = (false, eval a X.env) :: starEach [] X.env := by rfl)
    (nb : starEach [.Call (.Name "range" p2) [a] [] q] X.env = (false, eval (.Call (.Name "range" p2) [a] [] q) X.env) :: starEach [] X.env := by rfl) : DE X W (.Call (.Name "tuple" p) [.Call (.Name "range" p2) [a] [] q] [] pos) (dTupRg fe) :=
  pe_imp (pe_tupRg hc hg hm (prg_1 hg2 hm2 ha na) nb) fun σ H Q h => by
    have h := tD_one h
    obtain ⟨ι, ρ, s, er, sr, q⟩ := h
    refine ⟨ι, ρ, s, er, sr, ?_⟩
    cases ef : fe ρ s with
    | no => rw [ef] at q; exact q
    | exc c s1 => rw [ef] at q; exact q
    | ok d s1 =>
      rw [ef] at q
      intro x H1 ι1 a1 st1 r1
      obtain ⟨ι2, st, d2, d', sr2, rp, e, q2⟩ := q x H1 ι1 a1 st1 r1
      unfold tupRgD at e
      split at e
      · rename_i n
        split at e
        · rename_i hn
          cases e
          cases rp
          exact ⟨n, rfl, rg_okz hn.1 hn.2, fun p hp => q2 _ _ (adv_upd ι2 hp) (sr2.upd hp) (rep_tup' sr2 (rg_reps n) hp)⟩
        · cases e
      · cases e
theorem de_listRg {a : Expr} {fe : Exp} {p p2 q pos : Pos} (hg : Gl X "list") (hm : X.mg "list" = none) (hg2 : Gl X "range") (hm2 : X.mg "range" = none) (ha : DE X W a fe) (hc : X.calm = true := by rfl)
    (na : starEach [a] X.env = (false, eval a X.env) :: starEach [] X.env := by rfl)
    (nb : starEach [.Call (.Name "range" p2) [a] [] q] X.env = (false, eval (.Call (.Name "range" p2) [a] [] q) X.env) :: starEach [] X.env := by rfl) : DE X W (.Call (.Name "list" p) [.Call (.Name "range" p2) [a] [] q] [] pos) (dListRg fe) :=
  pe_imp (pe_listRg hc hg hm (prg_1 hg2 hm2 ha na) nb) fun σ H Q h => by
    have h := tD_one h
    obtain ⟨ι, ρ, s, er, sr, q⟩ := h
    refine ⟨ι, ρ, s, er, sr, ?_⟩
    cases ef : fe ρ s with
    | no => rw [ef] at q; exact q
    | exc c s1 => rw [ef] at q; exact q
    | ok d s1 =>
      rw [ef] at q
      intro x H1 ι1 a1 st1 r1
      obtain ⟨ι2, st, d2, d', sr2, rp, e, q2⟩ := q x H1 ι1 a1 st1 r1
      unfold listRgD at e
      split at e
      · rename_i n
        split at e
        · rename_i hn
          cases e
          cases rp
          exact ⟨n, rfl, rg_okz hn.1 hn.2, fun p hp => q2 _ _ (adv_upd ι2 hp) (sr2.upd hp) (rep_lst' sr2 (rg_reps n) hp)⟩
        · cases e
      · cases e
end
end Z

set_option Elab.async false
set_option linter.all false
set_option maxRecDepth 100000
set_option maxHeartbeats 2000000
namespace Z
open PySem PySem.Spec PyProof.Rows L2
/-! ### (a, b, ..) = a list -/
def gLstD (n : Nat) (t : Tgs) : Tg := fun d ρ s => match sqL s d with
  | some ds => if ds.length = n then t ds ρ s else none
  | none => none
section
variable {X : Cx} {pos : Pos}
theorem dg_lst {es : List Expr} {k : Nat} {t : Tgs} {n : Nat} (hc : X.calm = true) (h : DGs X es t) (hn : (assignEach es X.env).length = n := by rfl) (hst : (assignEach es X.env).findIdx? (·.1) = none := by rfl) : DG X (.Tuple es k pos) (gLstD n t) :=
  pg_imp (pg_unl hc h hn hst) fun v σ H Q ⟨ι, ρ, s, d, ρ', s', er, sr, r, e, q⟩ => by
    unfold gLstD at e
    cases ea : sqL s d with
    | none => rw [ea] at e; cases e
    | some ds =>
      rw [ea] at e
      simp only at e
      split at e
      · rename_i hl
        obtain ⟨a, vs, rfl, ha, rr⟩ := rep_sqL sr r ea
        exact ⟨a, vs, rfl, SqL.of ha, by rw [← rr.length]; exact hl, ι, ρ, s, ds, ρ', s', er, sr, rr, e, q⟩
      · cases e
end
end Z

set_option Elab.async false
set_option linter.all false
set_option maxRecDepth 100000
set_option maxHeartbeats 2000000
namespace Z
open PySem PySem.Spec PyProof.Rows L2
/-! ### a module's tuple of two texts -/
def TupK (K : PySem.W.Frag) (mg : Str → Option Value) (x : Str) (s0 s1 : List Nat) : Prop := ∃ (a : Addr) (z0 z1 : Str) (t0 t1 : Tok) (o : Obj) (n : Nat), mg x = some (.ref a) ∧ K.lookup a = some o ∧ o.cls = .type "tuple" ∧ o.dict = none ∧ o.data = .seq #[.str z0 t0, .str z1 t1] n ∧ z0.cps.toList = s0 ∧ z1.cps.toList = s1
section
variable {X : Cx} {W : WX} {pos : Pos}
theorem de_globT {x : Str} {s0 s1 : List Nat} (h : TupK X.K X.mg x s0 s1) (hg : Gl X x) (h0 : s0.length ≤ 16777216 := by decide) (h1 : s1.length ≤ 16777216 := by decide) (hd : (x == ("__debug__" : Str)) = false := by decide) : DE X W (.Name x pos) (dC (.tup [.str s0, .str s1])) := by
  obtain ⟨a, z0, z1, t0, t1, o, n, hm, hk, hc, _, hdt, e0, e1⟩ := h
  refine de_glob (v := .ref a) hg hm rfl (fun H ι => ?_) hd
  refine .tup (vs := [.str z0, .str z1]) (.inr ⟨o, _, n, hk, hc, hdt, by rw [sizeLine_eq]; simp, ?_⟩) (.cons (rep_str e0 h0) (.cons (rep_str e1 h1) .nil))
  exact .cons ⟨t0, rfl⟩ (.cons ⟨t1, rfl⟩ .nil)
end
/-! ### t.index(x), a tuple of texts -/
def idxN (z : List Nat) : List (List Nat) → Nat → Option Nat
  | [], _ => none
  | y :: r, i => if y = z then some i else idxN z r (i + 1)
def idxD : Mf := fun x ds s => match x, ds with
  | .tup xs, [.str z] => match strsD xs with
    | some ys => (idxN z ys 0).map fun j => (.int (j : Nat), s)
    | none => none
  | _, _ => none
theorem idxN_ok {z : List Nat} : ∀ {ys : List (List Nat)} {i j : Nat}, idxN z ys i = some j → i ≤ j ∧ ys[j - i]? = some z ∧ ∀ m, m < j - i → ys[m]? ≠ some z
  | [], i, j, h => by cases h
  | y :: r, i, j, h => by
    rw [idxN] at h
    split at h
    · rename_i e
      cases h
      subst e
      refine ⟨Nat.le_refl _, by rw [Nat.sub_self]; rfl, fun m hm => by omega⟩
    · rename_i e
      obtain ⟨h1, h2, h3⟩ := idxN_ok h
      have hj : j - i = (j - (i + 1)) + 1 := by omega
      refine ⟨by omega, by rw [hj, List.getElem?_cons_succ]; exact h2, fun m hm => ?_⟩
      cases m with
      | zero => rw [List.getElem?_cons_zero]; exact fun h => e (Option.some.inj h)
      | succ m => rw [List.getElem?_cons_succ]; exact h3 m (by omega)
/-- a method of a datum that is known -/
def dMK (d : D) (g : Mf) (fa : Exps) : Exp := fun ρ s => (fa ρ s).bind fun ds s2 => mGo (g d ds s2)
theorem dMK_ap (d : D) (g : Mf) (fa : Exps) (ρ : Ev) (s : Sto) : dMK d g fa ρ s = (fa ρ s).bind fun ds s2 => mGo (g d ds s2) := rfl
section
variable {X : Cx} {W : WX} {e : Expr} {es : List Expr} {fa : Exps} {pos apos cpos : Pos}
theorem de_idxK {x : Str} {c0 c1 : List Nat} (h : TupK X.K X.mg x c0 c1) (hg : Gl X x) (ha : DA X W (e :: es) fa) (hd : (x == ("__debug__" : Str)) = false := by decide)
    (hbase : attributeBase (.Name x pos) "index" X.env (eval (.Name x pos) X.env) = eval (.Name x pos) X.env := by rfl)
    (hfew : ((backTo cpos (starEach (e :: es) X.env)).all (fun x => !x.1) && (backToKw cpos (keywordEach [] X.env)).all (fun x => x.1.isSome)
      && decide ((e :: es).length + ([] : List Keyword).length + (if ([] : List Keyword).isEmpty then 0 else 1) < 30)) = true := by rfl)
    (hline : (apos.endLine == cpos.line) = true := by rfl) (hs : starEach (e :: es) X.env = (false, eval e X.env) :: starEach es X.env := by rfl) (hplain : (backTo cpos (starEach es X.env)).any (·.1) = false := by rfl) :
    DE X W (.Call (.Attribute (.Name x pos) "index" apos) (e :: es) [] cpos) (dMK (.tup [.str c0, .str c1]) idxD fa) := by
  obtain ⟨a, z0, z1, t0, t1, o, n, hm, hk, hc, hdi, hdt, e0, e1⟩ := h
  refine pe_imp (pe_bm PySem.F.plainAttrs_tuple PySem.F.slot_tuple_index PySem.F.type_tuple_index mt_tup_index (pe_glob (v := .ref a) hg hm rfl hd) ha hbase hfew hline hs hplain) fun σ H Q ⟨ι, ρ, s, er, sr, q⟩ => ?_
  refine ⟨.inr (.inl ⟨rfl, o, hk, hc, hdi⟩), tDA_step er sr q fun vs H1 ι1 s1 ds er1 sr1 r1 q1 => ?_⟩
  cases eg : idxD (.tup [.str c0, .str c1]) ds s1 with
  | none => simp only [eg] at q1; exact (q1 : False).elim
  | some p =>
    obtain ⟨d', s'⟩ := p
    simp only [eg] at q1
    unfold idxD at eg
    split at eg
    · rename_i xs z hxs
      cases hxs
      split at eg
      · rename_i ys ey
        have ey : some [c0, c1] = some ys := ey
        cases ey
        cases ei : idxN z [c0, c1] 0 with
        | none => rw [ei] at eg; cases eg
        | some j =>
          rw [ei] at eg
          cases eg
          obtain ⟨w, rfl, r2⟩ := r1.one
          cases r2
          obtain ⟨_, h2, h3⟩ := idxN_ok ei
          rw [Nat.sub_zero] at h2 h3
          have z0e : (⟨c0.toArray⟩ : Str) = z0 := by rw [← e0]
          have z1e : (⟨c1.toArray⟩ : Str) = z1 := by rw [← e1]
          refine ⟨a, [c0, c1].map fun b => (⟨b.toArray⟩ : Str), ⟨z.toArray⟩, j, rfl, rfl, .inr ⟨o, _, n, hk, hc, hdt, by rw [sizeLine_eq]; simp, ?_⟩, by rw [List.getElem?_map, h2]; rfl, fun m hm h => h3 m hm ?_, q1 _ H1 ι1 (Adv.refl _ _) sr1 (.int _)⟩
          · refine .cons ⟨t0, by rw [← z0e]⟩ (.cons ⟨t1, by rw [← z1e]⟩ .nil)
          · rw [List.getElem?_map] at h
            cases hy : [c0, c1][m]? with
            | none => rw [hy] at h; cases h
            | some y =>
              rw [hy] at h
              have h := congrArg (fun x : Str => x.cps.toList) (Option.some.inj h)
              simp at h
              rw [h]
      · cases eg
    · cases eg
end
end Z

set_option Elab.async false
set_option linter.all false
set_option maxRecDepth 100000
set_option maxHeartbeats 2000000
namespace Z
open PySem PySem.Spec PyProof.Rows L2
/-! ### a dict of texts that never changes -/
def dctI (x y : D) : Option D := match x, y with
  | .dct ps, .str a => (ps.find? fun p => p.1 == a).map fun p => .str p.2
  | _, _ => none
def dDct (k1 v1 k2 v2 : List Nat) : Exp := dC (.dct [(k1, v1), (k2, v2)])
def dDGet (fo fe : Exp) : Exp := fun ρ s => (fo ρ s).bind fun x s1 => (fe ρ s1).bind fun y s2 => lift (dctI x y) s2
theorem dDct_ap (k1 v1 k2 v2 : List Nat) (ρ : Ev) (s : Sto) : dDct k1 v1 k2 v2 ρ s = .ok (.dct [(k1, v1), (k2, v2)]) s := rfl
theorem dDGet_ap (fo fe : Exp) (ρ : Ev) (s : Sto) : dDGet fo fe ρ s = (fo ρ s).bind fun x s1 => (fe ρ s1).bind fun y s2 => lift (dctI x y) s2 := rfl
theorem valV_dkv {a : List Nat} : ∀ (ps : List (List Nat × List Nat)), valV (ps.map dkv) (.inr ⟨a.toArray⟩) = (ps.find? fun p => p.1 == a).map fun p => .str ⟨p.2.toArray⟩
  | [] => rfl
  | p :: ps => by
    rw [List.map_cons]
    by_cases h : p.1 = a
    · rw [valV_pos (p := dkv p) (by unfold dkv; rw [h]), List.find?_cons, show (p.1 == a) = true from beq_iff_eq.mpr h]
      rfl
    · have hne : ¬ (dkv p).1 = .inr ⟨a.toArray⟩ := fun e => h (by
        unfold dkv at e
        have := congrArg (fun x : Str => x.cps.toList) (Sum.inr.inj e)
        simpa using this)
      rw [valV_neg (p := dkv p) hne, List.find?_cons, show (p.1 == a) = false from beq_eq_false_iff_ne.mpr h, valV_dkv ps]
section
variable {X : Cx} {W : WX}
theorem de_dct (k1 v1 k2 v2 : List Nat) {x1 y1 x2 y2 : Str} {p1 p2 p3 p4 p5 : Pos}
    (e1 : x1.cps.toList = k1 := by decide +kernel) (e2 : y1.cps.toList = v1 := by decide +kernel) (e3 : x2.cps.toList = k2 := by decide +kernel) (e4 : y2.cps.toList = v2 := by decide +kernel)
    (hn : k1 ≠ k2 := by decide) (hl : ([(k1, v1), (k2, v2)].all fun p => decide (p.1.length ≤ 16777216 ∧ p.2.length ≤ 16777216)) = true := by decide) :
    DE X W (.Dict [some (.Constant (.str x1) j1 p1), some (.Constant (.str x2) j2 p2)] [.Constant (.str y1) j3 p3, .Constant (.str y2) j4 p4] p5) (dDct k1 v1 k2 v2) := by
  refine pe_imp (pe_disp (pps_cons pe_str pe_str (pps_cons pe_str pe_str pps_nil)) rfl rfl (fun z => by cases z) (by simp)) fun σ H Q ⟨ι, ρ, s, er, sr, q⟩ => ?_
  intro p hp
  refine ⟨upd_same, [(.inr x1, .str y1), (.inr x2, .str y2)], rfl, by simp, ?_⟩
  have hH : ∀ m : List (Key × V), upd (upd H p (.dK [])) p (.dK m) = upd H p (.dK m) := fun m => by
    funext b
    by_cases hb : b = p
    · subst hb; rw [upd_same, upd_same]
    · rw [upd_ne hb, upd_ne hb, upd_ne hb]
  rw [hH]
  have hne : x1 ≠ x2 := fun h => hn (by rw [← e1, ← e3, h])
  have m1 : mergeK [] [((.inr x1 : Key), V.str y1), (.inr x2, .str y2)] = [(k1, v1), (k2, v2)].map dkv := by
    have f1 : x1 = ⟨k1.toArray⟩ := by rw [str_list x1, e1]
    have f2 : y1 = ⟨v1.toArray⟩ := by rw [str_list y1, e2]
    have f3 : x2 = ⟨k2.toArray⟩ := by rw [str_list x2, e3]
    have f4 : y2 = ⟨v2.toArray⟩ := by rw [str_list y2, e4]
    have h1 : mergeK [] [((.inr x1 : Key), V.str y1), (.inr x2, .str y2)] = [(.inr x1, .str y1), (.inr x2, .str y2)] := by simp [mergeK, putK, hne]
    rw [h1, f1, f2, f3, f4]
    rfl
  rw [m1]
  exact q (.ref p) _ ι (adv_upd ι hp) (sr.upd hp) (.dct (.inl upd_same) (sr.own.fresh hp) hl)
theorem de_dget {o e : Expr} {fo fe : Exp} {pos : Pos} (hu : X.A.units + 1 < cLine) (ho : DE X W o fo) (he : DE X W e fe) (hs : NoSl e) : DE X W (.Subscript o e pos) (dDGet fo fe) := by
  refine pe_imp (pe_dget hu ho he hs) fun σ H Q ⟨ι, ρ, s, er, sr, q⟩ => tD_step er sr q fun v H1 ι1 s1 d a1 er1 sr1 r1 q1 => tD_step er1 sr1 q1 fun y H2 ι2 s2 d2 a2 er2 sr2 r2 q2 => ?_
  cases hd : dctI d d2 with
  | none => rw [hd] at q2; exact (q2 : False).elim
  | some z =>
    rw [hd] at q2
    unfold dctI at hd
    split at hd
    · rename_i ps a
      cases r2
      cases r1.adv a2 sr1.own with
      | @dct p _ hp hfr hl =>
        cases hf : ps.find? fun p => p.1 == a with
        | none => rw [hf] at hd; cases hd
        | some w =>
          rw [hf] at hd
          cases hd
          have hm := List.mem_of_find?_eq_some hf
          have hlw := of_decide_eq_true (List.all_eq_true.mp hl w hm)
          refine ⟨p, .str ⟨w.2.toArray⟩, rfl, ?_, q2 _ H2 ι2 (Adv.refl _ _) sr2 (.str _ hlw.2)⟩
          exact .inl ⟨_, .inr ⟨a.toArray⟩, hp, rfl, by rw [valV_dkv, hf]; rfl⟩
    · cases hd
end
end Z
namespace Z
open PySem PySem.Spec PyProof.Rows L2
/-! ### a + b of lists, as a new list of ours -/
abbrev OpN := D → D → Sto → Option (List D)
def rGN (K : PySem.W.Frag) (mg : Str → Option Value) (g : OpN) : R2 := fun x y H Q => ∃ ι s dx dy xs, StR K mg H ι s ∧ Rep K mg H ι dx x ∧ Rep K mg H ι dy y ∧ g dx dy s = some xs ∧ ∀ z H' ι', Adv ι H ι' H' → StR K mg H' ι' (s ++ [.lst xs]) → Rep K mg H' ι' (.obj s.length) z → Q z H'
abbrev Op2N (X : Cx) (f : Value → Value → Sem Value) (g : OpN) : Prop := OpR X f (rGN X.K X.mg g)
def dOpN (g : OpN) (fa fb : Exp) : Exp := fun ρ s => (fa ρ s).bind fun x s1 => (fb ρ s1).bind fun y s2 => match g x y s2 with
  | some xs => .ok (.obj s2.length) (s2 ++ [.lst xs])
  | none => .no
def catN : OpN := fun x y s => match sqL s x, sqL s y with
  | some a, some b => if a.length + b.length ≤ 16777216 then some (a ++ b) else none
  | _, _ => none
theorem dOpN_ap (g : OpN) (fa fb : Exp) (ρ : Ev) (s : Sto) : dOpN g fa fb ρ s = (fa ρ s).bind fun x s1 => (fb ρ s1).bind fun y s2 => match g x y s2 with
  | some xs => .ok (.obj s2.length) (s2 ++ [.lst xs])
  | none => .no := rfl
section
variable {X : Cx} {W : WX} {a b : Expr} {fa fb : Exp} {pos : Pos}
theorem tOpN_ok {K : PySem.W.Frag} {mg : Str → Option Value} {g : OpN} {σ : L2.St} {H : Hp} {Q : VK} (h : tD K mg W (dOpN g fa fb) σ H Q) : tOp (rGN K mg g) (tD K mg W fa) (tD K mg W fb) σ H Q := by
  obtain ⟨ι, ρ, s, er, sr, q⟩ := h
  refine tD_step er sr q fun v H1 ι1 s1 d a1 er1 sr1 r1 q1 => tD_step er1 sr1 q1 fun y H2 ι2 s2 d2 a2 er2 sr2 r2 q2 => ?_
  cases ec : g d d2 s2 with
  | none => simp only [ec] at q2; exact (q2 : False).elim
  | some xs =>
    simp only [ec] at q2
    exact ⟨ι2, s2, d, d2, xs, sr2, r1.adv a2 sr1.own, r2, ec, fun z H' ι' a st r => q2 z H' ι' a st r⟩
theorem de_opN {op : Operator} {g : OpN} (ho : Op2N X (binaryOp op) g) (ha : DE X W a fa) (hb : DE X W b fb) : DE X W (.BinOp a op b pos) (dOpN g fa fb) := pe_imp (pe_op ho ha hb) fun _ _ _ h => tOpN_ok h
theorem o_catN : Op2N X (binaryOp .Add) catN := by
  intro pins s σ H x y v u Q I rx ry ⟨ι, st, dx, dy, d, sr, r1, r2, e, q⟩
  unfold catN at e
  split at e
  · rename_i a b e1 e2
    split at e
    · rename_i hl
      cases e
      obtain ⟨l, xs, rfl, h1, q1⟩ := rep_sqL sr r1 e1
      obtain ⟨m, ys, rfl, h2, q2⟩ := rep_sqL sr r2 e2
      refine op_cat pins s σ H _ _ v u Q I rx ry ⟨l, m, xs, ys, rfl, rfl, h1, h2, by rw [sizeL, ← q1.length, ← q2.length]; exact hl, fun p hp => ?_⟩
      obtain ⟨s1, a⟩ := sr.alloc hp (q1.append q2)
      exact q _ _ _ a s1 (.obj (by rw [← sr.len]; simp))
    · cases e
  · cases e
end
end Z
namespace Z
open PySem PySem.Spec PyProof.Rows L2
/-! ### str of None, too -/
def strD2 : Bf := fun ds s => match ds with
  | [.non] => some (.str [78, 111, 110, 101])
  | ds => strD ds s
section
variable {X : Cx}
theorem b_str2 : BfR X (.type "str") strD2 := by
  intro pins s σ H xs us Q I r h
  obtain ⟨ι, st, ds, d, sr, rr, e, q⟩ := h
  unfold strD2 at e
  split at e
  · cases e
    obtain ⟨v, rfl, r1⟩ := rr.one
    cases r1
    obtain ⟨u, rfl, rx⟩ := vals1 r
    cases rx
    exact PySem.P.str_of_none ⟨.str "None", H, I.tok _, ⟨_, rfl⟩, q _ H (Adv.refl _ _) sr (rep_str (x := "None") (by decide +kernel) (by decide))⟩
  · exact b_str pins s σ H xs us Q I r ⟨ι, st, ds, d, sr, rr, e, q⟩
end
theorem strD2_int (i : Int) (s : Sto) : strD2 [.int i] s = strD [.int i] s := rfl
end Z

set_option Elab.async false
set_option linter.all false
set_option maxRecDepth 100000
set_option maxHeartbeats 2000000
namespace Z
open PySem PySem.Spec PyProof.Rows L2
/-! ### sorted lists of the same things -/
theorem leP_trans (a b c : D) (h1 : leP a b = true) (h2 : leP b c = true) : leP a c = true := by
  unfold leP PySem.W.dataLt at *
  rw [Bool.not_eq_true'] at *
  cases h : lexLt itemOrd (PySem.W.keyToks (toPy c)) (PySem.W.keyToks (toPy a)) with
  | false => rfl
  | true =>
    rcases lex_negTrans (O := itemOrd) _ (PySem.W.keyToks (toPy b)) _ h with h3 | h3
    · rw [h2] at h3; cases h3
    · rw [h1] at h3; cases h3
theorem leP_total (a b : D) : (leP a b || leP b a) = true := by
  unfold leP PySem.W.dataLt
  cases h : lexLt itemOrd (PySem.W.keyToks (toPy b)) (PySem.W.keyToks (toPy a)) with
  | false => rfl
  | true =>
    cases h2 : lexLt itemOrd (PySem.W.keyToks (toPy a)) (PySem.W.keyToks (toPy b)) with
    | false => rfl
    | true =>
      have := lex_trans (O := itemOrd) _ _ _ h h2
      rw [lex_irrefl] at this
      cases this
theorem leP_anti {a b : D} (h1 : leP a b = true) (h2 : leP b a = true) : PySem.W.keyToks (toPy a) = PySem.W.keyToks (toPy b) := by
  unfold leP PySem.W.dataLt at *
  rw [Bool.not_eq_true'] at *
  exact lex_total (O := itemOrd) _ _ h2 h1
theorem sort_perm {xs ys : List D} (h : xs.Perm ys) (inj : ∀ x ∈ xs, ∀ y ∈ xs, PySem.W.keyToks (toPy x) = PySem.W.keyToks (toPy y) → x = y) : xs.mergeSort leP = ys.mergeSort leP := by
  have p1 := List.mergeSort_perm xs leP
  have p2 := List.mergeSort_perm ys leP
  refine List.Perm.eq_of_pairwise (le := fun a b => leP a b = true) (fun a b ha hb h1 h2 => inj a (p1.mem_iff.mp ha) b (h.mem_iff.mpr (p2.mem_iff.mp hb)) (leP_anti h1 h2)) (List.pairwise_mergeSort leP_trans leP_total xs) (List.pairwise_mergeSort leP_trans leP_total ys) (p1.trans (h.trans p2.symm))
theorem toks_ss (a b : List Nat) : PySem.W.keyToks (toPy (.tup [.str a, .str b])) = [.inl 1, .inr a, .inl 1, .inr b, .inl 0] := by
  simp [toPy, toPys, PySem.W.keyToks, PySem.W.keyToksAll]
theorem srt_ss {xs : List D} (h : ∀ x ∈ xs, ∃ a b, x = .tup [.str a, .str b]) : srtOk xs = true := by
  unfold srtOk
  rw [Bool.and_eq_true, Bool.and_eq_true, Bool.or_eq_true]
  refine ⟨⟨List.all_eq_true.mpr fun x hx => ?_, List.all_eq_true.mpr fun x hx => List.all_eq_true.mpr fun y hy => ?_⟩, .inl (List.all_eq_true.mpr fun x hx => ?_)⟩
  · obtain ⟨a, b, rfl⟩ := h x hx
    rfl
  · obtain ⟨a, b, rfl⟩ := h x hx
    obtain ⟨c, d, rfl⟩ := h y hy
    rfl
  · obtain ⟨a, b, rfl⟩ := h x hx
    rfl
theorem sort_ss {xs ys : List D} (h : xs.Perm ys) (hx : ∀ x ∈ xs, ∃ a b, x = .tup [.str a, .str b]) : xs.mergeSort leP = ys.mergeSort leP := sort_perm h fun x h1 y h2 e => by
  obtain ⟨a, b, rfl⟩ := hx x h1
  obtain ⟨c, d, rfl⟩ := hx y h2
  rw [toks_ss, toks_ss] at e
  simp at e
  rw [e.1, e.2]
end Z

set_option Elab.async false
set_option linter.all false
set_option maxRecDepth 100000
set_option maxHeartbeats 2000000
/-! sorted of a tuple, as of a list -/
namespace Z
open PySem PySem.Spec PyProof.Rows L2 PySem.Calls
section
variable {prog : Program} {w : World} {A : Around} {E : Value → Shared → Prop} {s : Shared}
theorem ztup_collect {l : Addr} {xs : List Value} {Q : List Value → Shared → Prop} (T : PyProof.Rows.IsTup s.heap l xs.toArray)
    (k : Q xs { s with heap := (s.heap.push (seqObj "list" #[] 0)).update s.heap.objs.size (Obj.mapSeq (· ++ xs.toArray)) }) (hz : xs.length ≤ sizeLine) :
    wpAny (model prog w) A (collect (.ref l)) Q E s := by
  obtain ⟨ob, gO, gC, m, gD⟩ := id T
  unfold collect
  refine wpAny_bind (wpAny_runValue (codeAny_builtin PyProof.Rows.entry_proto_collect' ?z1))
  case z1 =>
    show wpAny _ _ (do again (.builtin "list.__iadd__" ⟨[← newList [], (Value.ref l)], []⟩)) _ _ s
    refine wpAny_bind (wpAny_newList (wpAny_pure ⟨Code.quiet_builtin _ (by decide +kernel), codeAny_builtin PyProof.Rows.entry_list_iadd' ?z2⟩))
    case z2 =>
      show wpAny _ _ (Builtin.List.listExtendWith (.ref s.heap.objs.size) (Value.ref l) (.ref s.heap.objs.size)) _ _ { s with heap := s.heap.push (seqObj "list" #[] 0) }
      unfold Builtin.List.listExtendWith
      have gN : (s.heap.push (seqObj "list" #[] 0)).get? l = some ob := Heap.get?_push_of_some _ gO
      refine wpAny_bind (wpAny_typeOf (T := "tuple") ⟨ob, gN, gC⟩ ?z3)
      case z3 =>
        have tt : (Value.type "tuple" == Value.type "tuple") = true := by rfl
        rw [if_pos (by rw [tt]; simp)]
        refine wpAny_bind (listItems_at gN gD ?z4)
        case z4 =>
          refine wpAny_bind (listItems_at (n := 0) (xs := #[]) (Heap.get?_push_size _ rfl) rfl ?z5)
          case z5 =>
            rw [if_neg (by simp : ¬ _)]
            refine wpAny_bind (listUpdate_at (n := 0) (xs := #[]) (Heap.get?_push_size _ rfl) rfl ?z6 (Nat.zero_le _) (by show (#[] ++ xs.toArray).size ≤ sizeLine + 1; simp only [Array.size_append, List.size_toArray, List.length_nil]; omega))
            case z6 =>
              refine wpAny_pure ?z7
              case z7 =>
                show wpAny (model prog w) A (do
                    let q ← load s.heap.objs.size
                    match q.data with
                    | .seq ys _ => pure ys.toList
                    | _ => unsupported "internal:collect") Q E { s with heap := (s.heap.push (seqObj "list" #[] 0)).update s.heap.objs.size (Obj.mapSeq (· ++ xs.toArray)) }
                refine wpAny_bind (wpAny_load (get?_update_seq (Heap.get?_push_size _ rfl) _) ?z8)
                case z8 =>
                  show wpAny _ _ (pure ((#[] : Array Value) ++ xs.toArray).toList) Q E _
                  rw [show ((#[] : Array Value) ++ xs.toArray).toList = xs by simp]
                  exact wpAny_pure k
theorem ztup_sort {l : Addr} {xs : List Value} {Q : Value → Shared → Prop} (T : PyProof.Rows.IsTup s.heap l xs.toArray) (hz : xs.length ≤ sizeLine)
    (body : ∀ E' : Value → Shared → Prop, wpAny (model prog w) A.in1.in1 (Builtin.«list.sort» ⟨[.ref (s.heap.objs.size + 1)], []⟩) (fun f s' => f = .done (.ret .none) ∧ Q (.ref (s.heap.objs.size + 1)) s') E' { s with heap := PySem.W.copyHeap s.heap xs }) :
    wpAny (model prog w) A (call (.builtin "sorted") [(Value.ref l)] []) Q E s := by
  refine call_function_entry_kw PyProof.Rows.kind_sorted PyProof.Rows.plain_sorted PyProof.Rows.entry_sorted (PyProof.Rows.args_sorted1 _) ?z1
  case z1 =>
    unfold Builtin.«sorted»
    refine wpAny_bind (m := checkCount "sorted" 1 1 _) (wpAny_pure ?z2)
    case z2 =>
      refine wpAny_bind (ztup_collect T ?z3 hz)
      case z3 =>
        refine wpAny_bind (wpAny_newList ?z4 hz)
        case z4 =>
          have sz : ((s.heap.push (seqObj "list" #[] 0)).update s.heap.objs.size (Obj.mapSeq (· ++ xs.toArray))).objs.size = s.heap.objs.size + 1 := by
            rw [Heap.size_update, PyProof.Rows.size_push']
          show wpAny _ _ _ _ _ { s with heap := PySem.W.copyHeap s.heap xs }
          rw [sz]
          refine wpAny_bind (wpAny_holding (wpAny_call_entry_kw PyProof.Rows.slot_list_sort ⟨_, PySem.W.copyHeap_at s.heap xs, rfl⟩ PyProof.Rows.entry_list_sort ?z5 (PyProof.Rows.args_list_sort _)))
          case z5 =>
            show wpAny (model prog w) A.in1.in1 (Builtin.«list.sort» ⟨[.ref (s.heap.objs.size + 1)], []⟩) _ _ _
            refine wpAny_mono (body _) (fun f s' hf => ?z6) fun _ _ e => e
            case z6 =>
              obtain ⟨rfl, hq⟩ := hf
              exact ⟨_, rfl, wpAny_pure ⟨_, rfl, hq⟩⟩
theorem ztup_data {β : Type} {vs : List Value} {bs : List β} {enc : β → PyData} {R : Value → β → Prop} {l : Addr} {Q : Value → Shared → Prop} (T : PyProof.Rows.IsTup s.heap l vs.toArray) (e : PySem.W.EachIs R vs bs) (er : PySem.W.EachIs (fun v b => ∃ as, Reads s.heap v (enc b) as) vs bs) (hal : PySem.W.AllAlike (bs.map enc)) (hk : PySem.W.Sortable (bs.map enc)) (hz : bs.length ≤ sizeLine)
    (hu : ∀ b, b ∈ bs → A.units + 2 + (enc b).depth < cLine) (k : ∀ out, out.length = bs.length → PySem.W.EachIs R out (bs.mergeSort (PySem.W.dataLe false enc)) → Q (.ref (s.heap.objs.size + 1)) { s with heap := sortedAll s.heap vs (List.toArray out) }) :
    wpAny (model prog w) A (call (.builtin "sorted") [(Value.ref l)] []) Q E s := by
  have e2 : PySem.W.EachIs (fun v b => ∃ as, Reads (PySem.W.sortingHeap (PySem.W.copyHeap s.heap vs) (s.heap.objs.size + 1) vs) v (enc b) as) vs bs := er.mono fun _ _ ⟨as, r⟩ => ⟨as, PyProof.Rows.Reads.keeps (fun _ _ => PySem.W.sorting_copy_old) r⟩
  have hz' : vs.length ≤ sizeLine := by rw [e.length]; exact hz
  have S := PySem.W.SortsAt.data (prog := prog) (w := w) (A := A.in1.in1) (s := { s with heap := PySem.W.sortingHeap (PySem.W.copyHeap s.heap vs) (s.heap.objs.size + 1) vs }) (PySem.W.each_map (R := fun v d => ∃ as, Reads (PySem.W.sortingHeap (PySem.W.copyHeap s.heap vs) (s.heap.objs.size + 1) vs) v d as) enc e2) hal hk (PySem.W.bound_map hu)
  exact ztup_sort T hz' fun _ => PySem.W.list_sort_vals (s := { s with heap := PySem.W.copyHeap s.heap vs }) (PySem.W.copyHeap_at s.heap vs) S hz' ⟨rfl, k _ (by rw [PySem.W.sortVals_length false rfl]; exact e.length) (PySem.W.sortVals_data false e e2 hal)⟩
end
def sortedD2 : Bf := fun ds s => match ds with
  | [d] => match sqA s d with
    | some xs => if srtOk xs = true then some (.lst (xs.mergeSort leP)) else none
    | none => none
  | _ => none
section
variable {X : Cx}
theorem b_sorted2 (hu : X.A.units + 66 < cLine) : BfR X (.builtin "sorted") sortedD2 := by
  intro pins s σ H xs us Q I r ⟨ι, st, ds, d, sr, rr, e, q⟩
  unfold sortedD2 at e
  split at e
  · rename_i d0
    split at e
    · rename_i ys ey
      split at e
      · rename_i hs
        cases e
        have hs0 := hs
        simp only [srtOk, Bool.and_eq_true] at hs
        obtain ⟨⟨h1, h2⟩, h3⟩ := hs
        obtain ⟨v, rfl, r1⟩ := rr.one
        by_cases hd0 : ∃ zs, d0 = .tup zs
        rotate_left
        · have ey' : sqL st d0 = some ys := by
            cases d0 with
            | tup zs => exact absurd ⟨zs, rfl⟩ hd0
            | _ => exact ey
          exact b_sorted hu pins s σ H _ us Q I r ⟨ι, st, [_], _, sr, .cons r1 .nil, by
              unfold sortedD
              simp only [ey', if_pos hs0], q⟩
        · obtain ⟨zs, rfl⟩ := hd0
          have ez : zs = ys := by simpa [sqA] using ey
          subst ez
          obtain ⟨a, vs, rfl, ha, r2⟩ : ∃ a vs, v = .ref a ∧ SqT X.K H a vs ∧ Reps X.K X.mg H ι zs vs := by
            cases r1 with
            | @tup a vs ds hq rz => exact ⟨a, vs, rfl, hq, rz⟩
          obtain ⟨its, rv, ht, hz⟩ := I.tuple ha
          rw [Vals.ref1 r]
          obtain ⟨e1, e2⟩ := each_of (h := s.heap) (K := X.K) (mg := X.mg) (ι := ι) (H := H) I r2 rv h1
          have ln := r2.length
          have mz : (zs.zip vs).map Prod.fst = zs := List.map_fst_zip (by omega)
          have hal : PySem.W.AllAlike ((zs.zip vs).map fun b => toPy b.1) := by
            intro x hx y hy
            obtain ⟨p, hp, rfl⟩ := List.mem_map.mp hx
            obtain ⟨p', hp', rfl⟩ := List.mem_map.mp hy
            have m1 : p.1 ∈ zs := by rw [← mz]; exact List.mem_map.mpr ⟨p, hp, rfl⟩
            have m2 : p'.1 ∈ zs := by rw [← mz]; exact List.mem_map.mpr ⟨p', hp', rfl⟩
            exact List.all_eq_true.mp (List.all_eq_true.mp h2 _ m1) _ m2
          have hk : PySem.W.Sortable ((zs.zip vs).map fun b => toPy b.1) := by
            rcases Bool.or_eq_true_iff.mp h3 with h | h
            · refine .inl fun x hx => ?_
              obtain ⟨p, hp, rfl⟩ := List.mem_map.mp hx
              have m1 : p.1 ∈ zs := by rw [← mz]; exact List.mem_map.mpr ⟨p, hp, rfl⟩
              have := List.all_eq_true.mp h _ m1
              cases hd : p.1 with
              | tup qs =>
                cases qs with
                | nil => rw [hd] at this; simp [tupNe] at this
                | cons z qs => exact ⟨toPy z, toPys qs, by rw [toPy, toPys]⟩
              | _ => rw [hd] at this; simp [tupNe] at this
            · refine .inr fun x hx => ?_
              obtain ⟨p, hp, rfl⟩ := List.mem_map.mp hx
              have m1 : p.1 ∈ zs := by rw [← mz]; exact List.mem_map.mpr ⟨p, hp, rfl⟩
              have := List.all_eq_true.mp h _ m1
              cases hd : p.1 <;> rw [hd] at this <;> simp [notTup] at this <;> simp [toPy]
          have lz : (zs.zip vs).length = vs.length := by rw [List.length_zip, ln, Nat.min_self]
          refine ztup_data (R := fun (v : Value) (b : D × V) => RelV b.2 v) (enc := fun b : D × V => toPy b.1) ht e1 e2 hal hk (by rw [lz]; exact hz) (fun b hb => ?_) fun out ho eo => ?_
          · have m1 : b.1 ∈ zs := by rw [← mz]; exact List.mem_map.mpr ⟨b, hb, rfl⟩
            have := (pd_plain 40 b.1 (List.all_eq_true.mp h1 _ m1)).2
            omega
          · obtain ⟨ep, he'⟩ := PyProof.Rows.sortedAll_at s.heap its out.toArray
            have ev := each_vals eo
            have hmap : ((zs.zip vs).mergeSort (PySem.W.dataLe false fun b : D × V => toPy b.1)).map Prod.fst = zs.mergeSort leP := by
              have hh : ∀ a ∈ zs.zip vs, ∀ b ∈ zs.zip vs, PySem.W.dataLe false (fun b : D × V => toPy b.1) a b = leP (Prod.fst a) (Prod.fst b) := fun a _ b _ => rfl
              rw [List.map_mergeSort hh, mz]
            have hrep : Reps X.K X.mg H ι (zs.mergeSort leP) (((zs.zip vs).mergeSort (PySem.W.dataLe false fun b : D × V => toPy b.1)).map Prod.snd) := by
              rw [← hmap]
              exact reps_zip fun p hp => zip_reps r2 p (List.mem_mergeSort.mp hp)
            have hlen : (((zs.zip vs).mergeSort (PySem.W.dataLe false fun b : D × V => toPy b.1)).map Prod.snd).length ≤ sizeLine := by
              rw [List.length_map, List.length_mergeSort, lz]; exact hz
            have hn := I.hok.fresh (a := s.heap.objs.size + 1) (Nat.le_succ _)
            exact ⟨.ref _, upd H (s.heap.objs.size + 1) (.lst _), I.laid (t' := s.toks) (fun _ _ => PyProof.Rows.sortedAll_old) (Nat.le_succ _) ⟨hlen, out, ep, ev, he'⟩, rfl, q _ _ (adv_upd ι hn) (sr.upd hn) (rep_lst' sr hrep hn)⟩
      · cases e
    · cases e
  · cases e
end
end Z

set_option Elab.async false
set_option linter.all false
set_option maxRecDepth 100000
set_option maxHeartbeats 2000000
/-! list.extend, list.pop(i), min and max of lists of alike data -/
namespace Z
open PySem PySem.Spec PyProof.Rows L2
def extD : Mf := fun x ds s => match x, ds with
  | .obj n, [d] => match s[n]? with
    | some (.lst xs) => match sqL s d with
      | some ys => if xs.length + ys.length ≤ 16777216 then some (.non, s.set n (.lst (xs ++ ys))) else none
      | none => none
    | _ => none
  | _, _ => none
def popD2 : Mf := fun x ds s => match x, ds with
  | .obj n, [.int i] => match s[n]? with
    | some (.lst xs) => match ixN xs.length i with
      | some k => (xs[k]?).map fun y => (y, s.set n (.lst (xs.eraseIdx k)))
      | none => none
    | _ => none
  | x, ds => popD x ds s
section
variable {X : Cx}
theorem Reps.eraseIdx {K : PySem.W.Frag} {mg : Str → Option Value} {H : Hp} {ι : Io} {ds : List D} {vs : List V} (r : Reps K mg H ι ds vs) (k : Nat) : Reps K mg H ι (ds.eraseIdx k) (vs.eraseIdx k) := by
  rw [List.eraseIdx_eq_take_drop_succ, List.eraseIdx_eq_take_drop_succ]
  exact (r.take k).append (r.drop (k + 1))
theorem m_extend : MfR X "list" "list.extend" extD := by
  intro pins s σ H x xs v us Q I rx rxs ⟨ι, st, dx, ds, d, s', sr, r1, rr, hT, e, q⟩
  unfold extD at e
  split at e
  · rename_i n d0
    split at e
    · rename_i ys es
      split at e
      · rename_i zs ez
        split at e
        · rename_i hl
          cases e
          obtain ⟨w, rfl, r2⟩ := rr.one
          obtain ⟨b, ws, rfl, hb, r3⟩ := rep_sqL sr r2 ez
          cases r1 with
          | @obj _ a hn =>
            obtain ⟨vs, h1, r4⟩ := sr.at_ n a _ hn es
            obtain ⟨st', ad⟩ := sr.set (vs := vs ++ ws) hn (r4.append r3)
            exact mt_extend pins s σ H _ _ v us Q I rx rxs ⟨a, b, vs, ws, rfl, rfl, h1, hb, by rw [sizeL, ← r4.length, ← r3.length]; exact hl, q _ _ ad st' .non⟩
        · cases e
      · cases e
    · cases e
  · cases e
theorem m_pop2 : MfR X "list" "list.pop" popD2 := by
  intro pins s σ H x xs v us Q I rx rxs ⟨ι, st, dx, ds, d, s', sr, r1, rr, hT, e, q⟩
  unfold popD2 at e
  split at e
  · rename_i n i
    split at e
    · rename_i ys es
      split at e
      · rename_i k ek
        cases ey : ys[k]? with
        | none => rw [ey] at e; cases e
        | some y =>
          rw [ey] at e
          cases e
          obtain ⟨w, rfl, r2⟩ := rr.one
          cases r2
          cases r1 with
          | @obj _ a hn =>
            obtain ⟨vs, h1, r3⟩ := sr.at_ n a _ hn es
            obtain ⟨e1, e2, e3, e4⟩ := ixN_seq ek
            obtain ⟨w2, h2, r4⟩ := r3.get ey
            obtain ⟨st', ad⟩ := sr.set (vs := vs.eraseIdx k) hn (r3.eraseIdx k)
            have hz : vs.length ≤ sizeLine := by
              obtain ⟨z, its, nn, r, hl, ee⟩ := I.lstM h1
              exact z
            have hz2 : sizeLine < 2 ^ 62 := by rw [sizeL]; decide
            rw [r3.length] at e1 e2 e3 e4
            refine mt_popAt pins s σ H _ _ v us Q I rx rxs ⟨a, vs, i, k, w2, rfl, rfl, h1, by omega, by omega, e1, h2, q _ _ ad st' (r4.adv ad sr.own)⟩
      · cases e
    · cases e
  · exact m_pop pins s σ H x xs v us Q I rx rxs ⟨ι, st, _, _, d, s', sr, r1, rr, hT, e, q⟩
end
/-! ### min, max of data -/
def mmOk (xs : List D) : Bool := xs.all (pd 40) && (xs.all fun x => xs.all fun y => PySem.W.alike (toPy x) (toPy y)) && xs.all fun x => !isNonD x
def ltA (x y : D) : Bool := PySem.W.dataLt (toPy x) (toPy y)
def minP (x : D) (xs : List D) : D := xs.foldl (fun a y => if ltA y a then y else a) x
def maxP (x : D) (xs : List D) : D := xs.foldl (fun a y => if ltA a y then y else a) x
def minD3 : Bf := fun ds s => match minD ds s with
  | some d => some d
  | none => match ds with
    | [x] => match sqL s x with
      | some (y :: ys) => if mmOk (y :: ys) = true then some (minP y ys) else none
      | _ => none
    | _ => none
def maxD3 : Bf := fun ds s => match maxD ds s with
  | some d => some d
  | none => match ds with
    | [x] => match sqL s x with
      | some (y :: ys) => if mmOk (y :: ys) = true then some (maxP y ys) else none
      | _ => none
    | _ => none
theorem toPys_map : ∀ xs : List D, toPys xs = xs.map toPy
  | [] => by rw [toPys]; rfl
  | x :: xs => by rw [toPys, toPys_map xs]; rfl
theorem toPys_get (xs : List D) (i : Nat) : (toPys xs).getD i .none = toPy (xs.getD i .non) := by
  rw [toPys_map, List.getD_eq_getElem?_getD, List.getD_eq_getElem?_getD, List.getElem?_map]
  cases xs[i]? with
  | none => rw [Option.map_none]; simp [toPy]
  | some x => rfl
section
variable {prog : Program} {w : World} {A : Around} {E : Value → Shared → Prop} {s : Shared}
theorem min_at {l : Addr} {vs : Array Value} {x : PyData} {xs : List PyData} {as : List Addr} {Q : Value → Shared → Prop} (hh : A.handled = none) (L : s.heap.IsList l vs) (rd : ReadsAll s.heap vs.toList (x :: xs) as) (al : PySem.W.AlikeAll (x :: xs)) (un : A.units + 1 + PyData.depthAll (x :: xs) < cLine)
    (k : ∀ v h' tk, vs[argBest (fun i j => PySem.W.dataLt ((x :: xs).getD i .none) ((x :: xs).getD j .none)) xs.length]? = some v → (∀ b o, s.heap.get? b = some o → h'.get? b = some o) → Q v { s with heap := h', toks := tk }) :
    wpAny (model prog w) A (call (.builtin "min") [.ref l]) Q E s := by
  have nn : vs.size = xs.length + 1 := PySem.W.readsAll_len rd
  refine call_min_walkH (PySem.W.iter_listW (A := A.in1) hh L fun s2 e W st fp hw hk => ?z)
  case z =>
    refine ⟨_, _, _, _, _, _, _, s.heap, _, rfl, W, st, fp, by omega, hw, hk, PySem.W.cmpIn_lt (A := A.in1) rd al (by show A.units + 1 + _ < _; exact un), fun v s' hP m => ?y⟩
    case y =>
      obtain ⟨h', tk, rfl, hk'⟩ := PySem.W.moved_old e rfl m
      have e1 : vs.size - 1 = xs.length := by omega
      rw [e1] at hP
      exact k v h' tk hP hk'
theorem max_at {l : Addr} {vs : Array Value} {x : PyData} {xs : List PyData} {as : List Addr} {Q : Value → Shared → Prop} (hh : A.handled = none) (L : s.heap.IsList l vs) (rd : ReadsAll s.heap vs.toList (x :: xs) as) (al : PySem.W.AlikeAll (x :: xs)) (un : A.units + 1 + PyData.depthAll (x :: xs) < cLine)
    (k : ∀ v h' tk, vs[argBest (fun i j => PySem.W.dataLt ((x :: xs).getD j .none) ((x :: xs).getD i .none)) xs.length]? = some v → (∀ b o, s.heap.get? b = some o → h'.get? b = some o) → Q v { s with heap := h', toks := tk }) :
    wpAny (model prog w) A (call (.builtin "max") [.ref l]) Q E s := by
  have nn : vs.size = xs.length + 1 := PySem.W.readsAll_len rd
  refine call_max_walkH (PySem.W.iter_listW (A := A.in1) hh L fun s2 e W st fp hw hk => ?z)
  case z =>
    refine ⟨_, _, _, _, _, _, _, s.heap, _, rfl, W, st, fp, by omega, hw, hk, PySem.W.cmpIn_gt (A := A.in1) rd al (by show A.units + 1 + _ < _; exact un), fun v s' hP m => ?y⟩
    case y =>
      obtain ⟨h', tk, rfl, hk'⟩ := PySem.W.moved_old e rfl m
      have e1 : vs.size - 1 = xs.length := by omega
      rw [e1] at hP
      exact k v h' tk hP hk'
end
theorem mm_reads {K : PySem.W.Frag} {mg : Str → Option Value} {H : Hp} {ι : Io} {s : Shared} {X : Cx} {pins : List (Addr × Obj)} {σ : L2.St} (I : Inv X pins σ H s) {xs : List D} {vs : List V} {its : List Value} (r : Reps X.K X.mg H ι xs vs) (rv : Vals vs its) (hp : xs.all (pd 40) = true) : ∃ as, ReadsAll s.heap its (toPys xs) as := by
  induction xs generalizing vs its with
  | nil => cases r; cases rv; exact ⟨_, by rw [toPys]; exact .nil⟩
  | cons x xs ih =>
    cases r with
    | cons r1 t =>
      cases rv with
      | cons v1 vt =>
        rw [List.all_cons, Bool.and_eq_true] at hp
        obtain ⟨as, h⟩ := ih t vt hp.2
        obtain ⟨bs, h1⟩ := Dp.reads I _ _ _ (rep_dp 40 _ _ hp.1 r1) v1
        exact ⟨_, by rw [toPys]; exact .cons h1 h⟩
theorem mm_alike {xs : List D} (h : mmOk xs = true) : PySem.W.AlikeAll (toPys xs) := by
  simp only [mmOk, Bool.and_eq_true] at h
  obtain ⟨⟨_, h2⟩, h3⟩ := h
  rw [toPys_map]
  refine ⟨fun x hx y hy => ?_, fun x hx => ?_⟩
  · obtain ⟨d, hd, rfl⟩ := List.mem_map.mp hx
    obtain ⟨d', hd', rfl⟩ := List.mem_map.mp hy
    exact List.all_eq_true.mp (List.all_eq_true.mp h2 _ hd) _ hd'
  · obtain ⟨d, hd, rfl⟩ := List.mem_map.mp hx
    have := List.all_eq_true.mp h3 _ hd
    cases d <;> simp [isNonD] at this <;> simp [toPy]
theorem mm_depth {xs : List D} (h : xs.all (pd 40) = true) : PyData.depthAll (toPys xs) ≤ 40 := by
  induction xs with
  | nil => rw [toPys]; exact Nat.zero_le _
  | cons x xs ih =>
    rw [List.all_cons, Bool.and_eq_true] at h
    rw [toPys, PyData.depthAll]
    exact Nat.max_le.mpr ⟨(pd_plain 40 x h.1).2, ih h.2⟩
theorem best_fold (f : D → D → Bool) (x : D) (xs : List D) : argBest (fun i j => f ((x :: xs).getD i .non) ((x :: xs).getD j .non)) xs.length < (x :: xs).length ∧ (x :: xs)[argBest (fun i j => f ((x :: xs).getD i .non) ((x :: xs).getD j .non)) xs.length]? = some (xs.foldl (fun a y => if f y a then y else a) x) := by
  obtain ⟨h1, h2⟩ := PySem.W.argBest_fold f D.non x xs xs.length (Nat.le_refl _)
  rw [List.take_length] at h2
  have hlt : argBest (fun i j => f ((x :: xs).getD i .non) ((x :: xs).getD j .non)) xs.length < (x :: xs).length := by rw [List.length_cons]; omega
  refine ⟨hlt, ?_⟩
  rw [← h2, List.getD_eq_getElem?_getD, List.getElem?_eq_getElem hlt]
  rfl
section
variable {X : Cx}
theorem b_min3 (hc : X.calm = true) (hu : X.A.units + 66 < cLine) : BfR X (.builtin "min") minD3 := by
  intro pins s σ H xs us Q I r ⟨ι, st, ds, d, sr, rr, e, q⟩
  unfold minD3 at e
  split at e
  · rename_i d' ed
    cases e
    exact b_min hc pins s σ H xs us Q I r ⟨ι, st, ds, _, sr, rr, ed, q⟩
  · split at e
    · rename_i d0
      split at e
      · rename_i y ys ey
        split at e
        · rename_i hm
          cases e
          obtain ⟨v, rfl, r1⟩ := rr.one
          obtain ⟨a, vs, rfl, ha, r2⟩ := rep_sqL sr r1 ey
          obtain ⟨its, rv, hl, hz⟩ := I.list (SqL.of ha)
          rw [Vals.ref1 r]
          have hp : (y :: ys).all (pd 40) = true := by
            simp only [mmOk, Bool.and_eq_true] at hm; exact hm.1.1
          obtain ⟨as, ra⟩ := mm_reads (K := X.K) (mg := X.mg) I r2 rv hp
          have hd := mm_depth hp
          have al := mm_alike hm
          rw [toPys] at ra hd al
          obtain ⟨f1, f2⟩ := best_fold ltA y ys
          have eb : argBest (fun i j => PySem.W.dataLt ((toPy y :: toPys ys).getD i .none) ((toPy y :: toPys ys).getD j .none)) (toPys ys).length = argBest (fun i j => ltA ((y :: ys).getD i .non) ((y :: ys).getD j .non)) ys.length := by
            have : (toPys ys).length = ys.length := by rw [toPys_map, List.length_map]
            rw [this]
            congr 1
            funext i j
            have hg := fun i => toPys_get (y :: ys) i
            rw [toPys] at hg
            rw [hg, hg]
            rfl
          refine min_at (I.ok.hd hc) hl.isList ra al (by omega) fun v h' tk hv hk => ?_
          rw [eb] at hv
          obtain ⟨w, h2, r3⟩ := r2.get f2
          obtain ⟨u, hu1, ru⟩ := rv.get h2
          have : u = v := by
            rw [List.getElem?_toArray] at hv
            rw [hu1] at hv
            exact Option.some.inj hv
          subst this
          exact ⟨_, H, I.kept hk, ru, q _ H (Adv.refl _ _) sr r3⟩
        · cases e
      · cases e
    · cases e
theorem b_max3 (hc : X.calm = true) (hu : X.A.units + 66 < cLine) : BfR X (.builtin "max") maxD3 := by
  intro pins s σ H xs us Q I r ⟨ι, st, ds, d, sr, rr, e, q⟩
  unfold maxD3 at e
  split at e
  · rename_i d' ed
    cases e
    exact b_max hc pins s σ H xs us Q I r ⟨ι, st, ds, _, sr, rr, ed, q⟩
  · split at e
    · rename_i d0
      split at e
      · rename_i y ys ey
        split at e
        · rename_i hm
          cases e
          obtain ⟨v, rfl, r1⟩ := rr.one
          obtain ⟨a, vs, rfl, ha, r2⟩ := rep_sqL sr r1 ey
          obtain ⟨its, rv, hl, hz⟩ := I.list (SqL.of ha)
          rw [Vals.ref1 r]
          have hp : (y :: ys).all (pd 40) = true := by
            simp only [mmOk, Bool.and_eq_true] at hm; exact hm.1.1
          obtain ⟨as, ra⟩ := mm_reads (K := X.K) (mg := X.mg) I r2 rv hp
          have hd := mm_depth hp
          have al := mm_alike hm
          rw [toPys] at ra hd al
          obtain ⟨f1, f2⟩ := best_fold (fun y a => ltA a y) y ys
          have eb : argBest (fun i j => PySem.W.dataLt ((toPy y :: toPys ys).getD j .none) ((toPy y :: toPys ys).getD i .none)) (toPys ys).length = argBest (fun i j => (fun y a => ltA a y) ((y :: ys).getD i .non) ((y :: ys).getD j .non)) ys.length := by
            have : (toPys ys).length = ys.length := by rw [toPys_map, List.length_map]
            rw [this]
            congr 1
            funext i j
            have hg := fun i => toPys_get (y :: ys) i
            rw [toPys] at hg
            rw [hg, hg]
            rfl
          refine max_at (I.ok.hd hc) hl.isList ra al (by omega) fun v h' tk hv hk => ?_
          rw [eb] at hv
          obtain ⟨w, h2, r3⟩ := r2.get f2
          obtain ⟨u, hu1, ru⟩ := rv.get h2
          have : u = v := by
            rw [List.getElem?_toArray] at hv
            rw [hu1] at hv
            exact Option.some.inj hv
          subst this
          exact ⟨_, H, I.kept hk, ru, q _ H (Adv.refl _ _) sr r3⟩
        · cases e
      · cases e
    · cases e
end
end Z

set_option Elab.async false
set_option linter.all false
set_option maxRecDepth 100000
set_option maxHeartbeats 2000000
/-! range(a, b) of whole numbers of any size -/
namespace Z
open PySem PySem.Spec PyProof.Rows L2
theorem zrng_turn {P : Program} {w : World} {K : PySem.W.Frag} {tg : Expr} (it : Addr) (lo : Int) (n : Nat) : Turn P w K tg (Itr lo n) [it] it (fun i h => IsLongIter h it (lo + (i : Nat) * 1) ((n : Int) - (i : Nat)) 1) where
  mem := by simp
  obj := fun i h st b hb => by
    have e : b = it := by simpa using hb
    subst e
    exact ⟨_, st, fun v z => by
      have z2 : Data.fields _ = Data.cell v := z
      cases z2⟩
  keep := fun i h h' st k => k it (by simp) _ st
  item := by
    intro X hP hw hK hc i pins s σ H E I hf st hg
    subst hP hw hK
    obtain ⟨f0, f1, f2, f3, f4, f5⟩ := hf it (by simp)
    have W := Walks.longrange (prog := X.prog) (w := X.w) (I.ok.hd hc) it lo 1 n
    refine W.item i s _ _ hg st fun v h' tk hv st2 kk => ?_
    obtain ⟨t, rfl⟩ := hv
    have I1 : Inv X pins σ H { s with heap := h', toks := tk } := I.turned (fun b o hb e => kk b o (by simpa using hb) e) f0 f1 f3 f4 f5
    refine ⟨_, rfl, go_of (s := { s with heap := h', toks := tk }) (n := "longrange_iterator") st2 rfl rfl (by decide) ⟨.int (lo + i), H, I1, ⟨t, ?_⟩, ⟨rfl, rfl⟩, st2, fun b hb => (hf b hb).1⟩⟩
    rw [Int.mul_one]
  done := by
    intro X hP hw hK hc i pins s σ H E I hf st hg
    subst hP hw hK
    obtain ⟨f0, f1, f2, f3, f4, f5⟩ := hf it (by simp)
    exact wpAny_pyNext_long_end (I.ok.hd hc) st (by have : n ≤ i := hg; omega) fun h' eb => ⟨rfl, I.turned (t' := s.toks) (fun b o hb e => eb b o hb e) f0 f1 f3 f4 f5⟩
  self := fun _ _ _ _ _ st h => wpAny_pyIter_longiter st h
theorem zrng_it {X : Cx} {tg : Expr} {pins : List (Addr × Obj)} {σ : L2.St} {H : Hp} {s : Shared} {R : It → Hp → Prop} {E : Value → Shared → Prop} {lo hi : Int} {t u v : Tok} {tk : Nat} (I : Inv X pins σ H s)
    (q : R (Itr lo (hi - lo).toNat) H) : wpAny (model X.prog X.w) X.A (pyIter (.ref s.heap.objs.size)) (PIE X pins σ tg R) E { s with heap := s.heap.push { cls := .type "range", data := .fields #[.int lo t, .int hi u, .int 1 v] }, toks := tk } := by
  have I1 : Inv X pins σ H { s with heap := s.heap.push { cls := .type "range", data := .fields #[.int lo t, .int hi u, .int 1 v] }, toks := tk } := I.kept fun b o e => Heap.get?_push_of_some _ e
  have e1 : lo + ((0 : Nat) : Int) * 1 = lo := by simp
  have e2 : (((hi - lo).toNat : Nat) : Int) - ((0 : Nat) : Int) = Builtin.Range.rangeSize lo hi 1 := by rw [rangeSize_one]; split <;> omega
  cases hs : Builtin.Range.small lo hi 1 with
  | true =>
    refine wpAny_pyIter_range (IsRange.new ..) hs ?z1
    case z1 =>
      refine ⟨(s.heap.push { cls := .type "range", data := .fields #[.int lo t, .int hi u, .int 1 v] }).objs.size, [(s.heap.push { cls := .type "range", data := .fields #[.int lo t, .int hi u, .int 1 v] }).objs.size], _, _, H, rfl,
        I1.kept (t' := tk) fun b o e => Heap.get?_push_of_some _ e, turn_range _ lo (hi - lo).toNat, ?z2, fun b hb => ?z3, q⟩
      case z2 =>
        show IsRangeIter _ _ (lo + ((0 : Nat) : Int) * 1) ((((hi - lo).toNat : Nat) : Int) - ((0 : Nat) : Int)) 1
        rw [e1, e2]
        exact Heap.get?_push_size _ rfl
      case z3 =>
        have e : b = (s.heap.push { cls := .type "range", data := .fields #[.int lo t, .int hi u, .int 1 v] }).objs.size := by simpa using hb
        subst e
        exact I1.fpOk (Nat.le_refl _) (I1.hok.fresh (Nat.le_refl _))
  | false =>
    refine wpAny_pyIter_longrange (IsRange.new ..) hs ?z1
    case z1 =>
      refine ⟨(s.heap.push { cls := .type "range", data := .fields #[.int lo t, .int hi u, .int 1 v] }).objs.size, [(s.heap.push { cls := .type "range", data := .fields #[.int lo t, .int hi u, .int 1 v] }).objs.size], _, _, H, rfl,
        I1.kept (t' := tk) fun b o e => Heap.get?_push_of_some _ e, zrng_turn _ lo (hi - lo).toNat, ?z2, fun b hb => ?z3, q⟩
      case z2 =>
        show IsLongIter _ _ (lo + ((0 : Nat) : Int) * 1) ((((hi - lo).toNat : Nat) : Int) - ((0 : Nat) : Int)) 1
        rw [e1, e2]
        exact Heap.get?_push_size _ rfl
      case z3 =>
        have e : b = (s.heap.push { cls := .type "range", data := .fields #[.int lo t, .int hi u, .int 1 v] }).objs.size := by simpa using hb
        subst e
        exact I1.fpOk (Nat.le_refl _) (I1.hok.fresh (Nat.le_refl _))
def iRngL (ta : TA) : TI := fun σ H R => ta σ H fun vs H1 => ∃ i j : Int, vs = [.int i, .int j] ∧ R (Itr i (j - i).toNat) H1
theorem pi_rangeL {X : Cx} {tg : Expr} {a b : Expr} {ta : TA} {p pos : Pos} (hg : Gl X "range") (hm : X.mg "range" = none) (ha : PA X [a, b] ta) (hs : starEach [a, b] X.env = [(false, eval a X.env), (false, eval b X.env)] := by rfl) (hs2 : starEach [b] X.env = [(false, eval b X.env)] := by rfl) :
    PI X tg (.Call (.Name "range" p) [a, b] [] pos) (iRngL ta) := by
  refine ⟨fun pins s σ H R I h => ?z1⟩
  case z1 =>
    refine Call_ (ld_blt I hg hm boot_range (PyProof.Rows.callWith_type1 (thn (ha.run pos pins s σ H _ I h) fun us s1 ⟨vs, H1, I1, r1, q1⟩ => ?z2) (by rw [hs, hs2]) (by rw [hs2]; rfl)))
    case z2 =>
      obtain ⟨i, j, e, q⟩ := q1
      subst e
      cases r1 with
      | cons r rr =>
        cases rr with
        | cons r2 rr =>
          cases rr
          obtain ⟨t, rfl⟩ := r
          obtain ⟨t2, rfl⟩ := r2
          exact call_range_2 (zrng_it I1 q)
def rng2L (ds : List D) (s : Sto) : Option (List D × Grd) := match ds with
  | [.int i, .int j] => some ((List.range (j - i).toNat).map fun (k : Nat) => .int (i + k), [])
  | _ => none
theorem di_rangeL {X : Cx} {W : WX} {tg : Expr} {fa : Exps} {p pos : Pos} {a b : Expr} (hm : X.mg "range" = none) (hg : Gl X "range") (ha : DA X W [a, b] fa) (hs : starEach [a, b] X.env = [(false, eval a X.env), (false, eval b X.env)] := by rfl) (hs2 : starEach [b] X.env = [(false, eval b X.env)] := by rfl) : DI X W tg (.Call (.Name "range" p) [a, b] [] pos) (iA rng2L fa) :=
  pi_imp (pi_rangeL hg hm ha hs hs2) fun σ H RR h => tIA_step h fun vs H1 ι1 s1 ds p sr r e go => by
    unfold rng2L at e
    split at e
    · cases e
      obtain ⟨v, w, rfl, r1, r2⟩ := r.two
      cases r1; cases r2
      exact ⟨_, _, rfl, go _ walk_rngD⟩
    · cases e
end Z

set_option Elab.async false
set_option linter.all false
set_option maxRecDepth 100000
set_option maxHeartbeats 2000000
namespace Z
open PySem PySem.Spec PyProof.Rows L2

/-! ### keys -/
theorem keyK_inj : ∀ (a b : D) (k : Key), keyK a = some k → keyK b = some k → a = b
  | .int i, .int j, k, ha, hb => by cases ha; cases hb; rfl
  | .int i, .str t, k, ha, hb => by
    cases ha
    simp only [keyK] at hb
    split at hb <;> cases hb
  | .str s, .int j, k, ha, hb => by
    cases hb
    simp only [keyK] at ha
    split at ha <;> cases ha
  | .str s, .str t, k, ha, hb => by
    simp only [keyK] at ha hb
    split at ha
    · split at hb
      · cases ha
        have h : t = s := by simpa using hb
        rw [h]
      · cases hb
    · cases ha
  | .non, _, _, ha, _ => by cases ha
  | .bl _, _, _, ha, _ => by cases ha
  | .tup _, _, _, ha, _ => by cases ha
  | .lst _, _, _, ha, _ => by cases ha
  | .fzl _, _, _, ha, _ => by cases ha
  | .obj _, _, _, ha, _ => by cases ha
  | .fn _, _, _, ha, _ => by cases ha
  | .ty _, _, _, ha, _ => by cases ha
  | .dct _, _, _, ha, _ => by cases ha
  | .dic _ _ _, _, _, ha, _ => by cases ha
  | .int _, .non, _, _, hb => by cases hb
  | .int _, .bl _, _, _, hb => by cases hb
  | .int _, .tup _, _, _, hb => by cases hb
  | .int _, .lst _, _, _, hb => by cases hb
  | .int _, .fzl _, _, _, hb => by cases hb
  | .int _, .obj _, _, _, hb => by cases hb
  | .int _, .fn _, _, _, hb => by cases hb
  | .int _, .ty _, _, _, hb => by cases hb
  | .int _, .dct _, _, _, hb => by cases hb
  | .int _, .dic _ _ _, _, _, hb => by cases hb
  | .str _, .non, _, _, hb => by cases hb
  | .str _, .bl _, _, _, hb => by cases hb
  | .str _, .tup _, _, _, hb => by cases hb
  | .str _, .lst _, _, _, hb => by cases hb
  | .str _, .fzl _, _, _, hb => by cases hb
  | .str _, .obj _, _, _, hb => by cases hb
  | .str _, .fn _, _, _, hb => by cases hb
  | .str _, .ty _, _, _, hb => by cases hb
  | .str _, .dct _, _, _, hb => by cases hb
  | .str _, .dic _ _ _, _, _, hb => by cases hb
theorem keysK_cons {d : D} {r : List D} {z : List Key} (h : keysK (d :: r) = some z) : ∃ k ks, keyK d = some k ∧ keysK r = some ks ∧ z = k :: ks := by
  rw [keysK] at h
  cases e1 : keyK d with
  | none => simp [e1] at h
  | some k =>
    cases e2 : keysK r with
    | none => simp [e1, e2] at h
    | some ks => simp [e1, e2] at h; exact ⟨k, ks, rfl, rfl, h.symm⟩
theorem keysK_inj : ∀ (a b : List D) (k : List Key), keysK a = some k → keysK b = some k → a = b
  | [], [], _, _, _ => rfl
  | [], y :: ys, k, ha, hb => by
    cases ha
    obtain ⟨_, _, _, _, e⟩ := keysK_cons hb
    cases e
  | x :: xs, [], k, ha, hb => by
    cases hb
    obtain ⟨_, _, _, _, e⟩ := keysK_cons ha
    cases e
  | x :: xs, y :: ys, k, ha, hb => by
    obtain ⟨k1, r1, e1, e2, e3⟩ := keysK_cons ha
    obtain ⟨k2, r2, f1, f2, f3⟩ := keysK_cons hb
    rw [e3] at f3
    cases f3
    rw [keyK_inj x y _ e1 f1, keysK_inj xs ys _ e2 f2]
theorem keyT_inj : ∀ (a b : D) (k : List Key), keyT a = some k → keyT b = some k → a = b := fun a b k ha hb => by
  cases a with
  | tup xs =>
    cases b with
    | tup ys => rw [keysK_inj xs ys k ha hb]
    | _ => cases hb
  | _ => cases ha
section
variable {K : PySem.W.Frag} {mg : Str → Option Value} {ι : Io} {H : Hp}
theorem rep_keyK {d : D} {v : V} {k : Key} (r : Rep K mg H ι d v) (h : keyK d = some k) : v = kV k := by
  cases r with
  | int i => cases h; rfl
  | str s hs =>
    simp only [keyK, if_pos hs] at h
    cases h; rfl
  | _ => cases h
theorem keyK_rep {d : D} {k : Key} (h : keyK d = some k) : Rep K mg H ι d (kV k) := by
  cases d with
  | int i => cases h; exact .int i
  | str s =>
    simp only [keyK] at h
    split at h
    · rename_i hs
      cases h; exact .str s hs
    · cases h
  | _ => cases h
theorem reps_keysK : ∀ {ds : List D} {vs : List V} {ks : List Key}, Reps K mg H ι ds vs → keysK ds = some ks → vs = ks.map kV
  | _, _, _, .nil, h => by cases h; rfl
  | _, _, _, .cons r t, h => by
    obtain ⟨k1, r1, e1, e2, rfl⟩ := keysK_cons h
    rw [rep_keyK r e1, reps_keysK t e2, List.map_cons]
theorem keysK_reps : ∀ {ds : List D} {ks : List Key}, keysK ds = some ks → Reps K mg H ι ds (ks.map kV)
  | [], _, h => by cases h; exact .nil
  | d :: ds, _, h => by
    obtain ⟨k1, r1, e1, e2, rfl⟩ := keysK_cons h
    rw [List.map_cons]
    exact .cons (keyK_rep e1) (keysK_reps e2)
theorem rep_keyT {d : D} {v : V} {ks : List Key} (r : Rep K mg H ι d v) (h : keyT d = some ks) : ∃ b, v = .ref b ∧ SqT K H b (ks.map kV) := by
  cases r with
  | tup hq t => exact ⟨_, rfl, by rw [← reps_keysK t h]; exact hq⟩
  | _ => cases h
theorem keyT_rep {d : D} {b : Addr} {ks : List Key} (h : keyT d = some ks) (e : H b = some (.tup (ks.map kV))) : Rep K mg H ι d (.ref b) := by
  cases d with
  | tup xs => exact .tup (SqT.of e) (keysK_reps h)
  | _ => cases h
end

/-! ### tables: keys and values -/
def dget : List D → List D → D → Option D
  | k :: ks, v :: vs, x => if k = x then some v else dget ks vs x
  | _, _, _ => none
def dputv : List D → List D → D → D → List D
  | k :: ks, v :: vs, x, y => (if k = x then y else v) :: dputv ks vs x y
  | _, _, _, _ => []
/-- behind d[x] = y -/
def dput (ks vs : List D) (x y : D) : List D × List D := if x ∈ ks then (ks, dputv ks vs x y) else (ks ++ [x], vs ++ [y])
section
variable {K : PySem.W.Frag} {mg : Str → Option Value} {ι : Io} {H : Hp} {κ : Type} [DecidableEq κ] {f : D → Option κ} (inj : ∀ (a b : D) (k : κ), f a = some k → f b = some k → a = b)
include inj
theorem dget_val {x : D} {k : κ} (hx : f x = some k) : ∀ {kvs : List (κ × V)} {ks ds : List D}, ks.map f = kvs.map (fun p => some p.1) → Reps K mg H ι ds (kvs.map fun p => p.2) →
    (valV kvs k).isSome = (dget ks ds x).isSome ∧ ∀ d, dget ks ds x = some d → ∃ v, valV kvs k = some v ∧ Rep K mg H ι d v
  | [], ks, ds, hk, r => by
    cases ks with
    | cons a b => simp at hk
    | nil => simp [dget, valV]
  | p :: kvs, ks, ds, hk, r => by
    cases ks with
    | nil => simp at hk
    | cons a ks =>
      rw [List.map_cons, List.map_cons] at hk
      injection hk with h1 h2
      rw [List.map_cons] at r
      cases r with
      | @cons d0 ds v vs r0 r1 =>
        rw [dget]
        by_cases e : p.1 = k
        · have : a = x := inj a x k (by rw [h1, e]) hx
          rw [if_pos this, valV_pos e]
          exact ⟨rfl, fun d hd => ⟨_, rfl, by cases hd; exact r0⟩⟩
        · have : ¬ a = x := fun z => e (by rw [z, hx] at h1; cases h1; rfl)
          rw [if_neg this, valV_neg e]
          exact dget_val hx h2 r1
theorem any_in {x : D} {k : κ} (hx : f x = some k) : ∀ {kvs : List (κ × V)} {ks : List D}, ks.map f = kvs.map (fun p => some p.1) → (kvs.any fun kv => decide (kv.1 = k)) = decide (x ∈ ks)
  | [], ks, hk => by
    cases ks with
    | cons a b => simp at hk
    | nil => simp
  | p :: kvs, ks, hk => by
    cases ks with
    | nil => simp at hk
    | cons a ks =>
      rw [List.map_cons, List.map_cons] at hk
      injection hk with h1 h2
      rw [List.any_cons, any_in hx h2]
      by_cases e : p.1 = k
      · have : a = x := inj a x k (by rw [h1, e]) hx
        simp [e, this]
      · have : ¬ x = a := fun z => e (by rw [← z, hx] at h1; cases h1; rfl)
        simp [e, this]
theorem dputv_put {x y : D} {k : κ} {u : V} (hx : f x = some k) (ry : Rep K mg H ι y u) : ∀ {kvs : List (κ × V)} {ks ds : List D}, ks.map f = kvs.map (fun p => some p.1) → Reps K mg H ι ds (kvs.map fun p => p.2) →
    ks.map f = (kvs.map fun kv => if kv.1 = k then (kv.1, u) else kv).map (fun p => some p.1) ∧ Reps K mg H ι (dputv ks ds x y) ((kvs.map fun kv => if kv.1 = k then (kv.1, u) else kv).map fun p => p.2)
  | [], ks, ds, hk, r => by
    cases ks with
    | cons a b => simp at hk
    | nil => exact ⟨rfl, .nil⟩
  | p :: kvs, ks, ds, hk, r => by
    cases ks with
    | nil => simp at hk
    | cons a ks =>
      rw [List.map_cons, List.map_cons] at hk
      injection hk with h1 h2
      rw [List.map_cons] at r
      cases r with
      | @cons d0 ds v vs r0 r1 =>
        obtain ⟨i1, i2⟩ := dputv_put hx ry h2 r1
        simp only [List.map_cons, dputv]
        rw [i1]
        by_cases e : p.1 = k
        · have : a = x := inj a x k (by rw [h1, e]) hx
          rw [if_pos this, if_pos e]
          refine ⟨by rw [h1], .cons ry i2⟩
        · have : ¬ a = x := fun z => e (by rw [z, hx] at h1; cases h1; rfl)
          rw [if_neg this, if_neg e]
          refine ⟨by rw [h1], .cons r0 i2⟩
theorem dput_put {x y : D} {k : κ} {u : V} (hx : f x = some k) (ry : Rep K mg H ι y u) {kvs : List (κ × V)} {ks ds : List D} (hk : ks.map f = kvs.map (fun p => some p.1)) (r : Reps K mg H ι ds (kvs.map fun p => p.2)) :
    (dput ks ds x y).1.map f = (putK kvs k u).map (fun p => some p.1) ∧ Reps K mg H ι (dput ks ds x y).2 ((putK kvs k u).map fun p => p.2) := by
  unfold dput putK
  rw [any_in inj hx hk]
  by_cases e : x ∈ ks
  · rw [if_pos e, if_pos (decide_eq_true e)]
    exact dputv_put inj hx ry hk r
  · rw [if_neg e, if_neg (by rw [decide_eq_false e]; decide)]
    refine ⟨?_, ?_⟩
    · show (ks ++ [x]).map f = _
      rw [List.map_append, List.map_append, hk, List.map_cons, hx]; rfl
    · show Reps K mg H ι (ds ++ [y]) _
      rw [List.map_append]
      exact r.append (.cons ry .nil)
end

/-! ### a dict in hand -/
def dob (s : Sto) (x : D) : Option (Bool × List D × List D) := match x with
  | .dic t ks vs => some (t, ks, vs)
  | .obj n => match s[n]? with
    | some (.dic t ks vs) => some (t, ks, vs)
    | _ => none
  | _ => none
def isK (t : Bool) (y : D) : Bool := match t with
  | false => (keyK y).isSome
  | true => (keyT y).isSome
/-- what the dict at a holds at the key y, the key any tuple -/
def DGetS (K : PySem.W.Frag) (H : Hp) (a : Addr) (y : V) (r : Option V) : Prop :=
  (∃ kvs k, Rd H a (.dK kvs) ∧ y = kV k ∧ r = valV kvs k) ∨ ∃ kvs k b, Rd H a (.dT kvs) ∧ y = .ref b ∧ SqT K H b (k.map kV) ∧ r = valV kvs k
section
variable {K : PySem.W.Frag} {mg : Str → Option Value} {ι : Io} {H : Hp} {s : Sto}
theorem dob_rep {x : D} {v : V} {t : Bool} {ks ds : List D} (sr : StR K mg H ι s) (r : Rep K mg H ι x v) (h : dob s x = some (t, ks, ds)) : match t with
    | false => ∃ a kvs, v = .ref a ∧ Rd H a (.dK kvs) ∧ ks.map keyK = kvs.map (fun p => some p.1) ∧ Reps K mg H ι ds (kvs.map fun p => p.2)
    | true => ∃ a kvs, v = .ref a ∧ Rd H a (.dT kvs) ∧ ks.map keyT = kvs.map (fun p => some p.1) ∧ Reps K mg H ι ds (kvs.map fun p => p.2) := by
  cases r with
  | dicK hr hf hk rr => cases h; exact ⟨_, _, rfl, hr, hk, rr⟩
  | dicT hr hf hk rr => cases h; exact ⟨_, _, rfl, hr, hk, rr⟩
  | @obj n a hn =>
    simp only [dob] at h
    split at h
    · rename_i t' ks' vs' es
      cases h
      have z := sr.at_ n a _ hn es
      cases t with
      | false => obtain ⟨kvs, e, hk, rr⟩ := z; exact ⟨_, kvs, rfl, .inl e, hk, rr⟩
      | true => obtain ⟨kvs, e, hk, rr⟩ := z; exact ⟨_, kvs, rfl, .inl e, hk, rr⟩
    · cases h
  | _ => cases h
theorem dgetS_of {x y : D} {v w : V} {t : Bool} {ks ds : List D} (sr : StR K mg H ι s) (rx : Rep K mg H ι x v) (ry : Rep K mg H ι y w) (h : dob s x = some (t, ks, ds)) (hy : isK t y = true) :
    ∃ a o, v = .ref a ∧ DGetS K H a w o ∧ o.isSome = (dget ks ds y).isSome ∧ ∀ d, dget ks ds y = some d → ∃ u, o = some u ∧ Rep K mg H ι d u := by
  have z := dob_rep sr rx h
  cases t with
  | false =>
    obtain ⟨a, kvs, e, hr, hk, rr⟩ := z
    obtain ⟨k, hk2⟩ := Option.isSome_iff_exists.mp hy
    obtain ⟨h1, h2⟩ := dget_val keyK_inj hk2 hk rr
    exact ⟨a, _, e, .inl ⟨kvs, k, hr, rep_keyK ry hk2, rfl⟩, h1, h2⟩
  | true =>
    obtain ⟨a, kvs, e, hr, hk, rr⟩ := z
    obtain ⟨k, hk2⟩ := Option.isSome_iff_exists.mp hy
    obtain ⟨h1, h2⟩ := dget_val keyT_inj hk2 hk rr
    obtain ⟨b, e2, hq⟩ := rep_keyT ry hk2
    exact ⟨a, _, e, .inr ⟨kvs, k, b, hr, e2, hq, rfl⟩, h1, h2⟩
end
end Z

set_option Elab.async false
set_option linter.all false
set_option maxRecDepth 100000
set_option maxHeartbeats 2000000
namespace Z
open PySem PySem.Spec PyProof.Rows L2

/-! ### reading a dict, keys any tuples -/
section
variable {X : Cx} {pins : List (Addr × Obj)} {σ : L2.St} {H : Hp} {s : Shared} {a : Addr} {y v d : V} {u r : Value} {o : Option V} {A : Around} {E : Value → Shared → Prop}
theorem key_ofS {b : Addr} {ks : List Key} (I : Inv X pins σ H s) (e : SqT X.K H b (ks.map kV)) : (tupleKind (mixKind X.prog X.w)).is s.heap ks b := by
  obtain ⟨its, r, ⟨o, h1, h2, n, h3⟩, _⟩ := I.tuple e
  exact ⟨o, its.toArray, n, h1, h2, h3, by simpa using items_are r⟩
theorem dict_typeS (I : Inv X pins σ H s) (g : DGetS X.K H a y o) : s.TypeIs (.ref a) "dict" := by
  rcases g with ⟨kvs, k, e, _, _⟩ | ⟨kvs, k, b, e, _, _, _⟩
  · obtain ⟨_, _, vs, _, dd⟩ := dk_rd I.hok e
    exact dd.typeIs
  · obtain ⟨_, _, xs, _, dd⟩ := dt_rd I.hok e
    exact dd.typeIs
theorem getItemS {Q : Value → Shared → Prop} (hu : A.units + 1 < cLine) (I : Inv X pins σ H s) (g : DGetS X.K H a y (some v)) (ry : RelV y u) (h : ∀ w' s', Inv X pins σ H s' → RelV v w' → Q w' s') :
    wpAny (model X.prog X.w) A (getItem (.ref a) u) Q E s := by
  rcases g with ⟨kvs, k, e, ey, l⟩ | ⟨kvs, k, b, e, ey, eb, l⟩
  · exact d_getItem hu I (.inl ⟨kvs, k, e, ey, l⟩) ry h
  · subst ey
    cases (show u = Value.ref b from ry)
    obtain ⟨z, hd, xs, rel, dd⟩ := dt_rd I.hok e
    obtain ⟨w', hw, rw'⟩ := RelO.some_of (v := v) (o := (atKey xs k).map (·.2)) (by rw [l]; exact rel.val k)
    obtain ⟨p, hp, hp2⟩ := Option.map_eq_some_iff.mp hw
    refine wpAny_getItem_heap (tupleKind_room_in1 hu) (key_ofS I eb) dd hp ?_
    rw [hp2]
    exact h w' _ (I.tok _) rw'
theorem inS {Q : Value → Shared → Prop} (hu : A.units + 1 < cLine) (I : Inv X pins σ H s) (g : DGetS X.K H a y o) (ry : RelV y u) (h : ∀ s', Inv X pins σ H s' → Q (.bool o.isSome) s') :
    wpAny (model X.prog X.w) A (compareOp .In u (.ref a)) Q E s := by
  rcases g with ⟨kvs, k, e, ey, l⟩ | ⟨kvs, k, b, e, ey, eb, l⟩
  · exact d_in hu I (.inl ⟨kvs, k, e, ey, l⟩) ry h
  · subst ey
    cases (show u = Value.ref b from ry)
    obtain ⟨z, hd, xs, rel, dd⟩ := dt_rd I.hok e
    refine wpAny_in_heap (tupleKind_room_in1 hu) (key_ofS I eb) hd dd ?_
    have q := (rel.val k).isSome_eq
    rw [Option.isSome_map] at q
    rw [← q, ← l]
    exact h _ (I.tok _)
theorem notInS {Q : Value → Shared → Prop} (hu : A.units + 1 < cLine) (I : Inv X pins σ H s) (g : DGetS X.K H a y o) (ry : RelV y u) (h : ∀ s', Inv X pins σ H s' → Q (.bool (!o.isSome)) s') :
    wpAny (model X.prog X.w) A (compareOp .NotIn u (.ref a)) Q E s := by
  rcases g with ⟨kvs, k, e, ey, l⟩ | ⟨kvs, k, b, e, ey, eb, l⟩
  · exact d_notIn hu I (.inl ⟨kvs, k, e, ey, l⟩) ry h
  · subst ey
    cases (show u = Value.ref b from ry)
    obtain ⟨z, hd, xs, rel, dd⟩ := dt_rd I.hok e
    refine wpAny_notIn_heap (tupleKind_room_in1 hu) (key_ofS I eb) hd dd ?_
    have q := (rel.val k).isSome_eq
    rw [Option.isSome_map] at q
    rw [← q, ← l]
    exact h _ (I.tok _)
theorem get1S {Q : Value → Shared → Prop} (hu : A.units + 1 < cLine) (I : Inv X pins σ H s) (g : DGetS X.K H a y o) (ry : RelV y u) (h : ∀ w' s', Inv X pins σ H s' → RelV (o.getD .non) w' → Q w' s') :
    wpAny (model X.prog X.w) A (call (.builtin "dict.get") [.ref a, u]) Q E s := by
  rcases g with ⟨kvs, k, e, ey, l⟩ | ⟨kvs, k, b, e, ey, eb, l⟩
  · exact d_get1 hu I (.inl ⟨kvs, k, e, ey, l⟩) ry h
  · subst ey
    cases (show u = Value.ref b from ry)
    obtain ⟨z, hd, xs, rel, dd⟩ := dt_rd I.hok e
    refine call_meetsIn PySem.F.slot_dict_get dd.typeIs PySem.F.entry_dict_get (PySem.F.args_dict_get_2 _ _) (meetsH_dict_get (tupleKind (mixKind X.prog X.w)) a b hd) ⟨tupleKind_room_in1 hu, k, xs, key_ofS I eb, dd, h _ _ (I.tok _) ?_⟩
    rw [l]
    exact (rel.val k).getD rfl
theorem get2S {Q : Value → Shared → Prop} (hu : A.units + 1 < cLine) (I : Inv X pins σ H s) (g : DGetS X.K H a y o) (ry : RelV y u) (rd : RelV d r) (h : ∀ w' s', Inv X pins σ H s' → RelV (o.getD d) w' → Q w' s') :
    wpAny (model X.prog X.w) A (call (.builtin "dict.get") [.ref a, u, r]) Q E s := by
  rcases g with ⟨kvs, k, e, ey, l⟩ | ⟨kvs, k, b, e, ey, eb, l⟩
  · exact d_get2 hu I (.inl ⟨kvs, k, e, ey, l⟩) ry rd h
  · subst ey
    cases (show u = Value.ref b from ry)
    obtain ⟨z, hd, xs, rel, dd⟩ := dt_rd I.hok e
    refine call_meetsIn PySem.F.slot_dict_get dd.typeIs PySem.F.entry_dict_get (PySem.F.args_dict_get_3 _ _ _) (meetsH_dict_get_default (tupleKind (mixKind X.prog X.w)) a b hd r) ⟨tupleKind_room_in1 hu, k, xs, key_ofS I eb, dd, h _ _ (I.tok _) ?_⟩
    rw [l]
    exact (rel.val k).getD rd
end
section
variable {X : Cx}
theorem ix_dictS (hu : X.A.units + 1 < cLine) : IxR X (fun x y H Q => ∃ a v, x = .ref a ∧ DGetS X.K H a y (some v) ∧ Q v H) := by
  intro value slice pins s σ H x y v u Q I rx ry ⟨a, w, ex, g, q⟩ hs
  subst ex
  obtain rfl : v = Value.ref a := rx
  have hT := dict_typeS I g
  unfold subscriptTail
  refine wpAny_bind ?_
  rw [getitemInPython_of_ne hT.not_modules]
  refine wpAny_bind (wpAny_specialOf hT PySem.F.slot_dict_getitem.lookup ?_)
  have fin : wpAny (model X.prog X.w) X.A (subscripted slice false (.ref a) u) (fun r s₃ => wpAny (model X.prog X.w) X.A (letTemporaryGo value (.ref a) r >>= fun _ => pure r) (EP X pins σ Q) X.xe s₃) X.xe s := by
    rw [hs]
    exact wpAny_operating (wpAny_mono (getItemS hu I g ry fun w' s3 I3 rw' => (⟨w, H, I3, rw', q⟩ : EP X pins σ Q w' s3)) (fun r s₃ h₃ => wpAny_bind (wpAny_letTemporaryGo (wpAny_pure h₃))) fun _ _ x => x)
  first
    | exact wpAny_pure (wpAny_bind fin)
    | exact wpAny_bind (wpAny_pure (wpAny_bind fin))
    | exact wpAny_bind fin

/-! ### d[k], k in d -/
def ixD2 : Op := fun x y s => match dob s x with
  | some p => if isK p.1 y = true then dget p.2.1 p.2.2 y else none
  | none => ixD x y s
theorem i_ix2 (hu : X.A.units + 1 < cLine) : Ix2 X ixD2 := by
  intro value slice pins s σ H x y v u Q I rx ry ⟨ι, st, dx, dy, d, sr, r1, r2, e, q⟩ hs
  unfold ixD2 at e
  split at e
  · rename_i p ep
    obtain ⟨t, ks, ds⟩ := p
    split at e
    · rename_i hy
      obtain ⟨a, o, rfl, g, h1, h2⟩ := dgetS_of sr r1 r2 ep hy
      obtain ⟨w, rfl, rw'⟩ := h2 d e
      exact ix_dictS hu value slice pins s σ H _ y v u Q I rx ry ⟨a, w, rfl, g, q w H (Adv.refl _ _) sr rw'⟩ hs
    · cases e
  · exact i_ix value slice pins s σ H x y v u Q I rx ry ⟨ι, st, dx, dy, d, sr, r1, r2, e, q⟩ hs
def inD2 (x y : D) (s : Sto) : Option Bool := match dob s y with
  | some p => if isK p.1 x = true then some (dget p.2.1 p.2.2 x).isSome else none
  | none => inD x y s
def inO2 : Op := fun x y s => (inD2 x y s).map .bl
def ninO2 : Op := fun x y s => (inD2 x y s).map fun b => .bl (!b)
theorem o_in2 (hu : X.A.units + 64 < cLine) : Op2 X (compareOp .In) inO2 := by
  intro pins s σ H x y v u Q I rx ry ⟨ι, st, dx, dy, d, sr, r1, r2, e, q⟩
  unfold inO2 inD2 at e
  split at e
  · rename_i p ep
    obtain ⟨t, ks, ds⟩ := p
    split at e
    · rename_i hy
      cases e
      obtain ⟨a, o, rfl, g, h1, h2⟩ := dgetS_of sr r2 r1 ep hy
      obtain rfl : u = Value.ref a := ry
      refine inS (by omega) I g rx fun s' I' => ⟨.bl o.isSome, H, I', rfl, ?_⟩
      rw [h1]
      exact q _ H (Adv.refl _ _) sr (.bl _)
    · cases e
  · exact o_in hu pins s σ H x y v u Q I rx ry ⟨ι, st, dx, dy, d, sr, r1, r2, e, q⟩
theorem o_nin2 (hu : X.A.units + 64 < cLine) : Op2 X (compareOp .NotIn) ninO2 := by
  intro pins s σ H x y v u Q I rx ry ⟨ι, st, dx, dy, d, sr, r1, r2, e, q⟩
  unfold ninO2 inD2 at e
  split at e
  · rename_i p ep
    obtain ⟨t, ks, ds⟩ := p
    split at e
    · rename_i hy
      cases e
      obtain ⟨a, o, rfl, g, h1, h2⟩ := dgetS_of sr r2 r1 ep hy
      obtain rfl : u = Value.ref a := ry
      refine notInS (by omega) I g rx fun s' I' => ⟨.bl (!o.isSome), H, I', rfl, ?_⟩
      rw [h1]
      exact q _ H (Adv.refl _ _) sr (.bl _)
    · cases e
  · exact o_nin hu pins s σ H x y v u Q I rx ry ⟨ι, st, dx, dy, d, sr, r1, r2, e, q⟩
end
/-! ### {} -/
def dDnew (t : Bool) : Exp := fun _ s => .ok (.obj s.length) (s ++ [.dic t [] []])
section
variable {X : Cx} {W : WX} {pos : Pos}
theorem de_dnewK : DE X W (.Dict [] [] pos) (dDnew false) := pe_imp pe_dnewK fun σ H Q ⟨ι, ρ, s, er, sr, q⟩ p hp => by
  obtain ⟨st, a⟩ := sr.allocG (o := .dic false [] []) (u := .dK []) hp fun _ => ⟨[], upd_same, rfl, .nil⟩
  exact q _ _ _ a st (.obj (by rw [← sr.len]; simp))
theorem de_dnewT : DE X W (.Dict [] [] pos) (dDnew true) := pe_imp pe_dnewT fun σ H Q ⟨ι, ρ, s, er, sr, q⟩ p hp => by
  obtain ⟨st, a⟩ := sr.allocG (o := .dic true [] []) (u := .dT []) hp fun _ => ⟨[], upd_same, rfl, .nil⟩
  exact q _ _ _ a st (.obj (by rw [← sr.len]; simp))
end
end Z

set_option Elab.async false
set_option linter.all false
set_option maxRecDepth 100000
set_option maxHeartbeats 2000000
namespace Z
open PySem PySem.Spec PyProof.Rows L2

/-! ### o[i] = d, o a list or a dict -/
def setD2 (o i d : D) (s : Sto) : Option Sto := match o with
  | .obj n => match s[n]? with
    | some (.lst xs) => (match i with
      | .int k => (ixN xs.length k).map fun j => s.set n (.lst (xs.set j d))
      | _ => none)
    | some (.dic false ks vs) => if (keyK i).isSome = true ∧ ks.length < 16777216 then some (s.set n (.dic false (dput ks vs i d).1 (dput ks vs i d).2)) else none
    | _ => none
  | _ => none
def gSubD2 (fo fi : Exp) : Tg := fun d ρ s => match fo ρ s with
  | .ok o s1 => match fi ρ s1 with
    | .ok i s2 => (setD2 o i d s2).map fun s3 => (ρ, s3)
    | _ => none
  | _ => none
/-- o[i, ..] = d, o a dict -/
def setDT (o : D) (is : List D) (d : D) (s : Sto) : Option Sto := match o with
  | .obj n => match s[n]? with
    | some (.dic true ks vs) => if (keysK is).isSome = true ∧ ks.length < 16777216 ∧ is.length ≤ 16777216 then some (s.set n (.dic true (dput ks vs (.tup is) d).1 (dput ks vs (.tup is) d).2)) else none
    | _ => none
  | _ => none
def gSubDT (fo : Exp) (fi : Exps) : Tg := fun d ρ s => match fo ρ s with
  | .ok o s1 => match fi ρ s1 with
    | .ok is s2 => (setDT o is d s2).map fun s3 => (ρ, s3)
    | _ => none
  | _ => none
section
variable {K : PySem.W.Frag} {mg : Str → Option Value} {ι : Io} {H : Hp} {s : Sto}
theorem StR.putK {n : Nat} {a : Addr} {ks vs : List D} {x y : D} {k : Key} {u : V} {kvs : List (Key × V)} (sr : StR K mg H ι s) (hn : ι.o[n]? = some a) (hk : ks.map keyK = kvs.map (fun p => some p.1)) (r : Reps K mg H ι vs (kvs.map fun p => p.2)) (hx : keyK x = some k) (ry : Rep K mg H ι y u) :
    StR K mg (L2.upd H a (.dK (L2.putK kvs k u))) ι (s.set n (.dic false (dput ks vs x y).1 (dput ks vs x y).2)) ∧ Adv ι H ι (L2.upd H a (.dK (L2.putK kvs k u))) := sr.setG hn fun ad => by
  obtain ⟨h1, h2⟩ := dput_put keyK_inj hx (ry.adv ad sr.own) hk (r.adv ad sr.own)
  exact ⟨_, upd_same, h1, h2⟩
theorem StR.putT {n : Nat} {a : Addr} {ks vs : List D} {x y : D} {k : List Key} {u : V} {kvs : List (List Key × V)} (sr : StR K mg H ι s) (hn : ι.o[n]? = some a) (hk : ks.map keyT = kvs.map (fun p => some p.1)) (r : Reps K mg H ι vs (kvs.map fun p => p.2)) (hx : keyT x = some k) (ry : Rep K mg H ι y u) :
    StR K mg (L2.upd H a (.dT (L2.putK kvs k u))) ι (s.set n (.dic true (dput ks vs x y).1 (dput ks vs x y).2)) ∧ Adv ι H ι (L2.upd H a (.dT (L2.putK kvs k u))) := sr.setG hn fun ad => by
  obtain ⟨h1, h2⟩ := dput_put keyT_inj hx (ry.adv ad sr.own) hk (r.adv ad sr.own)
  exact ⟨_, upd_same, h1, h2⟩
theorem keys_len {κ : Type} {f : D → Option κ} {ks : List D} {kvs : List (κ × V)} (h : ks.map f = kvs.map (fun p => some p.1)) : ks.length = kvs.length := by
  have := congrArg List.length h
  simpa using this
end
section
variable {X : Cx} {o i : Expr} {fo fi : Exp} {pos : Pos}
theorem set_two (hu : X.A.units + 1 < cLine) : PSet X (fun o i v H Q => rSetL o i v H Q ∨ rSetD o i v H Q) := by
  intro pins s σ H o i v ov iv u Q I ro ri rv h
  rcases h with h | h
  · exact set_list pins s σ H o i v ov iv u Q I ro ri rv h
  · exact set_dict hu pins s σ H o i v ov iv u Q I ro ri rv h
theorem dg_sub2 (hu : X.A.units + 1 < cLine) (ho : DE X W0 o fo) (hi : DE X W0 i fi) (ha : ∀ v, assign (.Subscript o i pos) X.env v = (do
      let ov ← holding [v] (eval o X.env)
      let iv ← holding [v, ov] (eval i X.env)
      standAt pos
      holding [v, ov, iv] (setItem ov iv v)
      release [v, ov, iv] []) := by intro _; rfl) : DG X (.Subscript o i pos) (gSubD2 fo fi) :=
  pg_imp (pg_sub ho hi (set_two hu) ha) fun v σ H Q ⟨ι, ρ, s, d, ρ', s', er, sr, r, e, q⟩ => by
    refine ⟨ι, ρ, s, er, sr, ?_⟩
    unfold gSubD2 at e
    cases e1 : fo ρ s with
    | no => rw [e1] at e; cases e
    | exc c s1 => rw [e1] at e; cases e
    | ok od s1 =>
      rw [e1] at e
      simp only at e
      intro ov H1 ι1 a1 sr1 r1
      refine ⟨ι1, ρ, s1, er.adv a1 sr.own, sr1, ?_⟩
      cases e2 : fi ρ s1 with
      | no => rw [e2] at e; cases e
      | exc c s2 => rw [e2] at e; cases e
      | ok id s2 =>
        rw [e2] at e
        simp only at e
        intro iv H2 ι2 a2 sr2 r2
        have ro := r1.adv a2 sr1.own
        have rd := (r.adv a1 sr.own).adv a2 sr1.own
        have er2 := (er.adv a1 sr.own).adv a2 sr1.own
        unfold setD2 at e
        split at e
        · rename_i n
          cases ro with
          | @obj _ a hn =>
            split at e
            · rename_i xs es
              split at e
              · rename_i k
                cases ej : ixN xs.length k with
                | none => rw [ej] at e; cases e
                | some j =>
                  rw [ej] at e
                  cases e
                  cases r2
                  obtain ⟨vs, h1, rr⟩ := sr2.at_ n a _ hn es
                  obtain ⟨st, ad⟩ := sr2.set (vs := vs.set j v) hn (rr.set rd j)
                  exact .inl ⟨a, vs, k, j, rfl, rfl, h1, by rw [← rr.length]; exact ej, q _ _ ι2 ((a1.trans a2).trans ad) (er2.adv ad sr2.own) st⟩
              · cases e
            · rename_i ks vs es
              split at e
              · rename_i hc
                cases e
                obtain ⟨k, hk⟩ := Option.isSome_iff_exists.mp hc.1
                obtain ⟨kvs, h1, h2, rr⟩ := sr2.at_ n a _ hn es
                obtain ⟨st, ad⟩ := sr2.putK hn h2 rr hk rd
                rw [rep_keyK r2 hk]
                exact .inr ⟨a, _, rfl, DPut.k h1 (by rw [sizeL, ← keys_len h2]; exact hc.2), q _ _ ι2 ((a1.trans a2).trans ad) (er2.adv ad sr2.own) st⟩
              · cases e
            · cases e
        · cases e
theorem dg_subT {es : List Expr} {fi : Exps} {x1} {tp : Pos} (hu : X.A.units + 1 < cLine) (ho : DE X W0 o fo) (hi : DA X W0 es fi) (ha : ∀ v, assign (.Subscript o (.Tuple es x1 tp) pos) X.env v = (do
      let ov ← holding [v] (eval o X.env)
      let iv ← holding [v, ov] (eval (.Tuple es x1 tp) X.env)
      standAt pos
      holding [v, ov, iv] (setItem ov iv v)
      release [v, ov, iv] []) := by intro _; rfl) : DG X (.Subscript o (.Tuple es x1 tp) pos) (gSubDT fo fi) :=
  pg_imp (pg_sub ho (pe_tup hi) (set_dict hu) ha) fun v σ H Q ⟨ι, ρ, s, d, ρ', s', er, sr, r, e, q⟩ => by
    refine ⟨ι, ρ, s, er, sr, ?_⟩
    unfold gSubDT at e
    cases e1 : fo ρ s with
    | no => rw [e1] at e; cases e
    | exc c s1 => rw [e1] at e; cases e
    | ok od s1 =>
      rw [e1] at e
      simp only at e
      intro ov H1 ι1 a1 sr1 r1
      refine ⟨ι1, ρ, s1, er.adv a1 sr.own, sr1, ?_⟩
      cases e2 : fi ρ s1 with
      | no => rw [e2] at e; cases e
      | exc c s2 => rw [e2] at e; cases e
      | ok ids s2 =>
        rw [e2] at e
        simp only at e
        intro ws H2 ι2 a2 sr2 r2
        unfold setDT at e
        split at e
        · rename_i n
          split at e
          · rename_i ks vs es
            split at e
            · rename_i hc
              cases e
              obtain ⟨k, hk⟩ := Option.isSome_iff_exists.mp hc.1
              have hw := reps_keysK r2 hk
              subst hw
              refine ⟨by rw [sizeL, ← r2.length]; exact hc.2.2, fun p hp => ?_⟩
              have a3 := adv_upd (o := .tup (k.map kV)) ι2 hp
              have sr3 : StR X.K X.mg (L2.upd H2 p (.tup (k.map kV))) ι2 s2 := sr2.upd hp
              have ro := (r1.adv a2 sr1.own).adv a3 sr2.own
              have rd := ((r.adv a1 sr.own).adv a2 sr1.own).adv a3 sr2.own
              have er3 := ((er.adv a1 sr.own).adv a2 sr1.own).adv a3 sr2.own
              cases ro with
              | @obj _ a hn =>
                obtain ⟨kvs, h1, h2, rr⟩ := sr3.at_ n a _ hn es
                have hkT : keyT (.tup ids) = some k := hk
                obtain ⟨st, ad⟩ := sr3.putT hn h2 rr hkT rd
                exact ⟨a, _, rfl, DPut.t h1 upd_same (by rw [sizeL, ← keys_len h2]; exact hc.2.1), q _ _ ι2 (((a1.trans a2).trans a3).trans ad) (er3.adv ad sr3.own) st⟩
            · cases e
          · cases e
        · cases e
end

/-! ### d.get(k), d.get(k, x) -/
def isDct (s : Sto) (x : D) : Bool := (dob s x).isSome
def dgt (x y z : D) (s : Sto) : Option D := match dob s x with
  | some p => if isK p.1 y = true then some ((dget p.2.1 p.2.2 y).getD z) else none
  | none => none
def dGet1 (fo fe : Exp) : Exp := fun ρ s => (fo ρ s).bind fun x s1 => if isDct s1 x = true then (fe ρ s1).bind fun y s2 => lift (dgt x y .non s2) s2 else .no
def dGet2 (fo fe ff : Exp) : Exp := fun ρ s => (fo ρ s).bind fun x s1 => if isDct s1 x = true then (fe ρ s1).bind fun y s2 => (ff ρ s2).bind fun z s3 => lift (dgt x y z s3) s3 else .no
theorem dgt_ok {K : PySem.W.Frag} {mg : Str → Option Value} {ι : Io} {H : Hp} {s : Sto} {x y z d : D} {v w u : V} (sr : StR K mg H ι s) (rx : Rep K mg H ι x v) (ry : Rep K mg H ι y w) (rz : Rep K mg H ι z u) (h : dgt x y z s = some d) :
    ∃ a o, v = .ref a ∧ DGetS K H a w o ∧ Rep K mg H ι d (o.getD u) := by
  unfold dgt at h
  split at h
  · rename_i p ep
    obtain ⟨t, ks, ds⟩ := p
    split at h
    · rename_i hy
      cases h
      obtain ⟨a, o, e, g, h1, h2⟩ := dgetS_of sr rx ry ep hy
      refine ⟨a, o, e, g, ?_⟩
      cases eg : dget ks ds y with
      | none =>
        rw [eg] at h1
        cases o with
        | none => exact rz
        | some _ => cases h1
      | some d' =>
        obtain ⟨w', rfl, r'⟩ := h2 d' eg
        exact r'
    · cases h
  · cases h
theorem isD_ofS {K : PySem.W.Frag} {mg : Str → Option Value} {ι : Io} {H : Hp} {s : Sto} {x : D} {v : V} (sr : StR K mg H ι s) (rx : Rep K mg H ι x v) (h : isDct s x = true) : ∃ a, v = .ref a ∧ IsD H a := by
  obtain ⟨p, ep⟩ := Option.isSome_iff_exists.mp h
  obtain ⟨t, ks, ds⟩ := p
  have z := dob_rep sr rx ep
  cases t with
  | false => obtain ⟨a, kvs, e, hr, _⟩ := z; exact ⟨a, e, .inl ⟨kvs, hr⟩⟩
  | true => obtain ⟨a, kvs, e, hr, _⟩ := z; exact ⟨a, e, .inr ⟨kvs, hr⟩⟩
section
variable {X : Cx} {W : WX} {o e f : Expr} {apos cpos : Pos} {fo fe ff : Exp} {td ty tx : TE}
theorem pe_get1S (hu : X.A.units + 1 < cLine) (ho : PE X o td) (he : PE X e ty) (m : M1 X o "get" apos e cpos) : PE X (.Call (.Attribute o "get" apos) [e] [] cpos) (fun σ H Q => td σ H fun x H1 => ∃ a, x = .ref a ∧ IsD H1 a ∧ ty σ H1 fun y H2 => ∃ o, DGetS X.K H2 a y o ∧ Q (o.getD .non) H2) := by
  refine ⟨fun pins s σ H Q I h => ?_⟩
  refine wpAny_Call_method m.base m.few m.line PySem.F.plainAttrs_dict PySem.F.slot_dict_get PySem.F.type_dict_get (thn (ho.run pins s σ H _ I h) fun u s1 ⟨x, H1, I1, rx, a, ex, d, q1⟩ => ?_)
  subst ex
  obtain rfl : u = Value.ref a := rx
  obtain ⟨t1, t2, _⟩ := isD_at I1 d
  refine ⟨t1, t2, ?_⟩
  rw [m.trees]
  refine Calls.callWith_builtin rfl (Calls.evalArgs_plain (Calls.spliced_cons (thn (he.run pins s1 σ H1 _ I1 q1) fun iv s2 ⟨y, H2, I2, ry, ov, g, q2⟩ => Calls.spliced_nil ?_)))
  exact get1S hu I2 g ry fun w' s3 I3 rw' => ⟨_, H2, I3, rw', q2⟩
theorem pe_get2S (hu : X.A.units + 1 < cLine) (ho : PE X o td) (he : PE X e ty) (hf : PE X f tx) (m : M2 X o "get" apos e f cpos) : PE X (.Call (.Attribute o "get" apos) [e, f] [] cpos) (fun σ H Q => td σ H fun x H1 => ∃ a, x = .ref a ∧ IsD H1 a ∧ ty σ H1 fun y H2 => tx σ H2 fun z H3 => ∃ o, DGetS X.K H3 a y o ∧ Q (o.getD z) H3) := by
  refine ⟨fun pins s σ H Q I h => ?_⟩
  refine wpAny_Call_method m.base m.few m.line PySem.F.plainAttrs_dict PySem.F.slot_dict_get PySem.F.type_dict_get (thn (ho.run pins s σ H _ I h) fun u s1 ⟨x, H1, I1, rx, a, ex, d, q1⟩ => ?_)
  subst ex
  obtain rfl : u = Value.ref a := rx
  obtain ⟨t1, t2, _⟩ := isD_at I1 d
  refine ⟨t1, t2, ?_⟩
  rw [m.trees]
  refine Calls.callWith_builtin rfl (Calls.evalArgs_plain (Calls.spliced_cons (thn (he.run pins s1 σ H1 _ I1 q1) fun iv s2 ⟨y, H2, I2, ry, q2⟩ =>
    Calls.spliced_cons (thn (hf.run pins s2 σ H2 _ I2 q2) fun fv s3 ⟨z, H3, I3, rz, ov, g, q3⟩ => Calls.spliced_nil ?_))))
  exact get2S hu I3 g ry rz fun w' s4 I4 rw' => ⟨_, H3, I4, rw', q3⟩
theorem de_get1 (hu : X.A.units + 1 < cLine) (ho : DE X W o fo) (he : DE X W e fe) (m : M1 X o "get" apos e cpos := by exact ⟨rfl, rfl, rfl, rfl⟩) : DE X W (.Call (.Attribute o "get" apos) [e] [] cpos) (dGet1 fo fe) :=
  pe_imp (pe_get1S hu ho he m) fun σ H Q ⟨ι, ρ, s, er, sr, q⟩ => tD_step er sr q fun v H1 ι1 s1 d a1 er1 sr1 r1 q1 => by
    split at q1
    · rename_i hd
      obtain ⟨a, rfl, id⟩ := isD_ofS sr1 r1 hd
      refine ⟨a, rfl, id, tD_step er1 sr1 q1 fun y H2 ι2 s2 d2 a2 er2 sr2 r2 q2 => ?_⟩
      cases eg : dgt d d2 .non s2 with
      | none => rw [eg] at q2; exact (q2 : False).elim
      | some z =>
        rw [eg] at q2
        obtain ⟨a', o, e', g, rz⟩ := dgt_ok sr2 (r1.adv a2 sr1.own) r2 .non eg
        cases e'
        exact ⟨o, g, q2 _ H2 ι2 (Adv.refl _ _) sr2 rz⟩
    · exact (q1 : False).elim
theorem de_get2 (hu : X.A.units + 1 < cLine) (ho : DE X W o fo) (he : DE X W e fe) (hf : DE X W f ff) (m : M2 X o "get" apos e f cpos := by exact ⟨rfl, rfl, rfl, rfl⟩) : DE X W (.Call (.Attribute o "get" apos) [e, f] [] cpos) (dGet2 fo fe ff) :=
  pe_imp (pe_get2S hu ho he hf m) fun σ H Q ⟨ι, ρ, s, er, sr, q⟩ => tD_step er sr q fun v H1 ι1 s1 d a1 er1 sr1 r1 q1 => by
    split at q1
    · rename_i hd
      obtain ⟨a, rfl, id⟩ := isD_ofS sr1 r1 hd
      refine ⟨a, rfl, id, tD_step er1 sr1 q1 fun y H2 ι2 s2 d2 a2 er2 sr2 r2 q2 => tD_step er2 sr2 q2 fun z H3 ι3 s3 d3 a3 er3 sr3 r3 q3 => ?_⟩
      cases eg : dgt d d2 d3 s3 with
      | none => rw [eg] at q3; exact (q3 : False).elim
      | some z =>
        rw [eg] at q3
        obtain ⟨a', o, e', g, rz⟩ := dgt_ok sr3 ((r1.adv a2 sr1.own).adv a3 sr2.own) (r2.adv a3 sr2.own) r3 eg
        cases e'
        exact ⟨o, g, q3 _ H3 ι3 (Adv.refl _ _) sr3 rz⟩
    · exact (q1 : False).elim
end
end Z

set_option Elab.async false
set_option linter.all false
set_option maxRecDepth 100000
set_option maxHeartbeats 2000000
namespace Z
open PySem PySem.Spec PyProof.Rows L2

/-! ### a dict, locked or not: what is known else stands -/
def IsDO (u : HO) : Prop := (∃ kvs, u = .dK kvs) ∨ ∃ kvs, u = .dT kvs
structure Lk (d : Addr) (u : HO) (H H' : Hp) : Prop where
  do_ : IsDO u
  here : Rd H d u
  then_ : Rd H' d u
  else_ : ∀ b, b ≠ d → H' b = H b
section
variable {K : PySem.W.Frag} {mg : Str → Option Value} {ι : Io} {H H' : Hp} {d : Addr} {u : HO}
theorem Lk.ne (l : Lk d u H H') {b : Addr} {o : HO} (e : H b = some o) (n1 : ∀ z, o ≠ .frz z u) (n2 : o ≠ u) : b ≠ d := fun z => by
  subst z
  rcases l.here with h | ⟨w, h⟩
  · rw [e] at h; exact n2 (Option.some.inj h)
  · rw [e] at h; exact n1 w (Option.some.inj h)
theorem Lk.rd (l : Lk d u H H') {b : Addr} {w : HO} (hw : IsDO w) (e : Rd H b w) : Rd H' b w := by
  by_cases hb : b = d
  · subst hb
    have : w = u := by
      rcases l.here with h | ⟨x, h⟩ <;> rcases e with e | ⟨y, e⟩ <;> rw [e] at h
      · exact Option.some.inj h
      · rcases l.do_ with ⟨_, z⟩ | ⟨_, z⟩ <;> subst z <;> cases h
      · rcases hw with ⟨_, z⟩ | ⟨_, z⟩ <;> subst z <;> cases h
      · cases h; rfl
    rw [this]; exact l.then_
  · unfold Rd; rw [l.else_ b hb]; exact e
mutual
theorem Rep.lk (l : Lk d u H H') : ∀ {x : D} {v : V}, Rep K mg H ι x v → Rep K mg H' ι x v
  | _, _, .non => .non
  | _, _, .bl b => .bl b
  | _, _, .int i => .int i
  | _, _, .str s h => .str s h
  | _, _, .tup h t => .tup (by
      rcases h with (h | ⟨o, h⟩) | h
      · exact .inl (.inl (by rw [l.else_ _ (l.ne h (fun _ z => nomatch z) (fun z => by rcases l.do_ with ⟨_, q⟩ | ⟨_, q⟩ <;> subst q <;> cases z))]; exact h))
      · exact .inl (.inr ⟨o, by rw [l.else_ _ (l.ne h (fun _ z => by rcases l.do_ with ⟨_, q⟩ | ⟨_, q⟩ <;> subst q <;> cases z) (fun z => by rcases l.do_ with ⟨_, q⟩ | ⟨_, q⟩ <;> subst q <;> cases z))]; exact h⟩)
      · exact .inr h) (Reps.lk l t)
  | _, _, .lst h n t => .lst (by rw [l.else_ _ (l.ne h (fun _ z => nomatch z) (fun z => by rcases l.do_ with ⟨_, q⟩ | ⟨_, q⟩ <;> subst q <;> cases z))]; exact h) n (Reps.lk l t)
  | _, _, .fzl h t => .fzl (by
      rcases h with ⟨o, h⟩ | h
      · exact .inl ⟨o, by rw [l.else_ _ (l.ne h (fun _ z => by rcases l.do_ with ⟨_, q⟩ | ⟨_, q⟩ <;> subst q <;> cases z) (fun z => by rcases l.do_ with ⟨_, q⟩ | ⟨_, q⟩ <;> subst q <;> cases z))]; exact h⟩
      · exact .inr h) (Reps.lk l t)
  | _, _, .obj h => .obj h
  | _, _, .fn h => .fn h
  | _, _, .ty n => .ty n
  | _, _, .dicK h n k t => .dicK (l.rd (.inl ⟨_, rfl⟩) h) n k (Reps.lk l t)
  | _, _, .dicT h n k t => .dicT (l.rd (.inr ⟨_, rfl⟩) h) n k (Reps.lk l t)
  | _, _, .dct h n k => .dct (l.rd (.inl ⟨_, rfl⟩) h) n k
theorem Reps.lk (l : Lk d u H H') : ∀ {xs : List D} {vs : List V}, Reps K mg H ι xs vs → Reps K mg H' ι xs vs
  | _, _, .nil => .nil
  | _, _, .cons h t => .cons (Rep.lk l h) (Reps.lk l t)
end
theorem StR.lk {s : Sto} (h : StR K mg H ι s) (l : Lk d u H H') (f : ι.fre d) : StR K mg H' ι s := by
  refine ⟨h.len, h.nd, fun b hb => ?_, h.apart, fun i b o e1 e2 => ?_⟩
  · obtain ⟨xs, q⟩ := h.prot b hb
    exact ⟨xs, by rw [l.else_ b (fun z => f.2 (by rw [← z]; exact hb))]; exact q⟩
  · exact (h.at_ i b o e1 e2).go (fun w e => by rw [l.else_ b (fun z => f.1 (by rw [← z]; exact List.mem_of_getElem? e1))]; exact e) fun r => r.lk l
theorem EnvR.lk {ρ : Ev} {σ : L2.St} (h : EnvR K mg H ι ρ σ) (l : Lk d u H H') : EnvR K mg H' ι ρ σ := by
  refine Paired.mapP h fun x v q => ?_
  cases x with
  | none => trivial
  | some x =>
    cases v with
    | none => exact q
    | some v => exact Rep.lk l q
theorem lk_on {o : Obj} (e : H d = some u) (hu : IsDO u) : Lk d u H (L2.upd H d (.frz o u)) := ⟨hu, .inl e, .inr ⟨o, upd_same⟩, fun b hb => upd_ne hb⟩
theorem lk_off {o : Obj} (e : H d = some (.frz o u)) (hu : IsDO u) : Lk d u H (L2.upd H d u) := ⟨hu, .inr ⟨o, e⟩, .inl upd_same, fun b hb => upd_ne hb⟩
/-- from the lock to the end -/
theorem adv_lk {ι' : Io} {o : Obj} (e : H d = some u) (f : ι.fre d) (a : Adv ι (L2.upd H d (.frz o u)) ι' H') : Adv ι H ι' (L2.upd H' d u) := by
  have ne : ∀ b, L2.upd H d (.frz o u) b = none → H b = none := fun b hb => by
    have : b ≠ d := fun z => by rw [z, upd_same] at hb; cases hb
    rw [upd_ne this] at hb; exact hb
  obtain ⟨ex, e1, n1⟩ := a.more
  obtain ⟨pe, e2, n2⟩ := a.prot
  refine ⟨⟨ex, e1, fun b hb => ne b (n1 b hb)⟩, ⟨pe, e2, fun b hb => ne b (n2 b hb)⟩, fun b w hb hn => ?_, fun b w hb => ?_⟩
  · by_cases z : b = d
    · subst z; rw [e] at hb; rw [upd_same]; exact hb
    · rw [upd_ne z]
      exact a.keep b w (by rw [upd_ne z]; exact hb) hn
  · by_cases z : b = d
    · subst z; exact ⟨u, upd_same⟩
    · rw [upd_ne z]
      exact a.there b w (by rw [upd_ne z]; exact hb)
end
/-! ### for .. in d -/
theorem ps_or {X : Cx} {st : Stmt} {t t' : TS} (h : PS X st t) (h' : PS X st t') : PS X st (fun D σ H => t D σ H ∨ t' D σ H) := ⟨fun pins s σ H D I q => q.elim (h.run pins s σ H D I) (h'.run pins s σ H D I)⟩
def noX (r : F) : F := match r with
  | .exc _ _ _ => .no
  | r => r
def sForK (i : Nat) (t : Tg) (body : Sm) : Sm := fun ρ s => match ρ[i]? with
  | some (some (.dic _ ks _)) => noX (forD t body [] ks ρ s)
  | _ => .no
section
variable {K : PySem.W.Frag} {mg : Str → Option Value} {W : WX} {ι : Io} {H : Hp}
theorem PoS.noX {r : F} {E : Ends} (h : PoS K mg W ι H (Z.noX r) E) : PoS K mg W ι H r E := by
  cases r with
  | exc c ρ s => exact (h : False).elim
  | _ => exact h
theorem PoS.lock {r : F} {E : Ends} {d : Addr} {u : HO} (hu : IsDO u) (e : H d = some u) (f : ι.fre d) (od : Obj) (h : PoS K mg W ι H (Z.noX r) E) :
    PoS K mg W ι (L2.upd H d (.frz od u)) r ⟨fun σ' H' => H' d = some (.frz od u) ∧ E.nx σ' (L2.upd H' d u), fun v H' => H' d = some (.frz od u) ∧ E.rt v (L2.upd H' d u), fun σ' H' => H' d = some (.frz od u) ∧ E.bk σ' (L2.upd H' d u), fun σ' H' => H' d = some (.frz od u) ∧ E.ct σ' (L2.upd H' d u)⟩ := by
  have go : ∀ {H' : Hp} {ι' : Io}, Adv ι (L2.upd H d (.frz od u)) ι' H' → H' d = some (.frz od u) ∧ ι'.fre d := fun a => ⟨a.keep _ _ upd_same f.1, a.fre upd_same f⟩
  cases r with
  | exc c ρ s => exact (h : False).elim
  | no => exact (h : False).elim
  | nx ρ s => exact fun σ' H' ι' a st er => ⟨(go a).1, h σ' _ ι' (adv_lk e f a) (st.lk (lk_off (go a).1 hu) (go a).2) (er.lk (lk_off (go a).1 hu))⟩
  | bk ρ s => exact fun σ' H' ι' a st er => ⟨(go a).1, h σ' _ ι' (adv_lk e f a) (st.lk (lk_off (go a).1 hu) (go a).2) (er.lk (lk_off (go a).1 hu))⟩
  | ct ρ s => exact fun σ' H' ι' a st er => ⟨(go a).1, h σ' _ ι' (adv_lk e f a) (st.lk (lk_off (go a).1 hu) (go a).2) (er.lk (lk_off (go a).1 hu))⟩
  | rt d' s => exact fun v H' ι' a st r => ⟨(go a).1, h v _ ι' (adv_lk e f a) (st.lk (lk_off (go a).1 hu) (go a).2) (r.lk (lk_off (go a).1 hu))⟩
theorem key_at {κ : Type} {f : D → Option κ} {ks : List D} {kvs : List (κ × V)} (hk : ks.map f = kvs.map (fun p => some p.1)) {i : Nat} {p : κ × V} (h : kvs[i]? = some p) : ∃ d, ks[i]? = some d ∧ f d = some p.1 := by
  have h1 : (ks.map f)[i]? = some (some p.1) := by rw [hk, List.getElem?_map, h]; rfl
  rw [List.getElem?_map] at h1
  cases e : ks[i]? with
  | none => rw [e] at h1; cases h1
  | some d => rw [e] at h1; exact ⟨d, rfl, Option.some.inj h1⟩
theorem walkD_K {a : Addr} {o : Obj} {ks : List D} {kvs : List (Key × V)} (hk : ks.map keyK = kvs.map (fun p => some p.1)) (e : H a = some (.frz o (.dK kvs))) (f : a ∉ ι.o) : WalkD K mg (Itk a o kvs) ks [] ι H := fun ι2 H2 ad own gr => by
  have e2 := ad.keep _ _ e f
  refine ⟨fun i hi => ⟨e2, by rw [← keys_len hk]; exact hi⟩, ⟨e2, by rw [keys_len hk]; exact Nat.le_refl _⟩, fun i x H3 hi hy => ?_⟩
  obtain ⟨rfl, k, v, h1, rfl⟩ := hy
  obtain ⟨d, h2, h3⟩ := key_at hk h1
  exact ⟨fun _ _ z => z, d, h2, keyK_rep h3⟩
theorem walkD_T {a : Addr} {o : Obj} {ks : List D} {kvs : List (List Key × V)} (hk : ks.map keyT = kvs.map (fun p => some p.1)) (e : H a = some (.frz o (.dT kvs))) (f : a ∉ ι.o) : WalkD K mg (Itkt a o kvs) ks [] ι H := fun ι2 H2 ad own gr => by
  have e2 := ad.keep _ _ e f
  refine ⟨fun i hi => ⟨e2, by rw [← keys_len hk]; exact hi⟩, ⟨e2, by rw [keys_len hk]; exact Nat.le_refl _⟩, fun i x H3 hi hy => ?_⟩
  obtain ⟨rfl, k, v, q, h1, rfl, hq⟩ := hy
  obtain ⟨d, h2, h3⟩ := key_at hk h1
  exact ⟨fun _ _ z => z, d, h2, keyT_rep h3 hq⟩
end
section
variable {X : Cx} {W : WX} {tg : Expr} {body : List Stmt} {t : Tg} {fb : Sm} {pos px : Pos}
theorem ds_forK (i : Nat) {x : Str} (hp : PassesOwn (model X.prog X.w) X.A X.env X.xe) (hc : X.calm = true) (hg : DG X tg t) (hb : DSs X W body fb) (hN : X.N[i]? = some x := by rfl)
    (hv : Vis X.env.scope x := by first | exact Or.inl rfl | exact Or.inr (Or.inl rfl) | exact Or.inr (Or.inr rfl)) (hd : (x == ("__debug__" : Str)) = false := by decide)
    (hcd : (x == ("__classdict__" : Str)) = false := by decide) (hs : ∀ y, foldedSetIterable (.Name x px) X.env y = pure y := by intro _; rfl) :
    DS X W (.For tg (.Name x px) body [] pos) (sForK i t fb) := by
  have base := ps_for (pos := pos) hp hc (pi_keys (tg := tg) (pe_var (pos := px) hN hv hd hcd)) hg hb hs
  refine ps_imp (ps_or (ps_lock base) base) fun D σ H ⟨ι, ρ, s, er, sr, q⟩ => ?_
  unfold sForK at q
  split at q
  · rename_i tt ks vs e
    obtain ⟨v, e', r⟩ := er.get e
    cases r with
    | @dicK a _ _ kvs hr hf hk rr =>
      rcases hr with h | ⟨o, h⟩
      · refine .inl ⟨a, .dK kvs, h, trivial, fun od => ⟨.ref a, e', a, od, rfl, .inl ⟨kvs, upd_same, ?_⟩⟩⟩
        have l : Lk a (.dK kvs) H (L2.upd H a (.frz od (.dK kvs))) := lk_on h (.inl ⟨_, rfl⟩)
        exact for_go (W := W) (er.lk l) (sr.lk l hf) (PoS.lock (.inl ⟨_, rfl⟩) h hf od q) (walkD_K hk upd_same hf.1)
      · exact .inr ⟨.ref a, e', a, o, rfl, .inl ⟨kvs, h, for_go (W := W) er sr q.noX (walkD_K hk h hf.1)⟩⟩
    | @dicT a _ _ kvs hr hf hk rr =>
      rcases hr with h | ⟨o, h⟩
      · refine .inl ⟨a, .dT kvs, h, trivial, fun od => ⟨.ref a, e', a, od, rfl, .inr ⟨kvs, upd_same, ?_⟩⟩⟩
        have l : Lk a (.dT kvs) H (L2.upd H a (.frz od (.dT kvs))) := lk_on h (.inr ⟨_, rfl⟩)
        exact for_go (W := W) (er.lk l) (sr.lk l hf) (PoS.lock (.inr ⟨_, rfl⟩) h hf od q) (walkD_T hk upd_same hf.1)
      · exact .inr ⟨.ref a, e', a, o, rfl, .inr ⟨kvs, h, for_go (W := W) er sr q.noX (walkD_T hk h hf.1)⟩⟩
  · exact (q : False).elim
end
end Z

set_option Elab.async false
set_option linter.all false
set_option maxRecDepth 100000
set_option maxHeartbeats 2000000
namespace Z
open L2
/-! ### tables: what is found behind a store -/
theorem dput_len {ks vs : List D} (h : ks.length = vs.length) (x y : D) : (dput ks vs x y).1.length = (dput ks vs x y).2.length := by
  have hv : ∀ (ks vs : List D), ks.length = vs.length → (dputv ks vs x y).length = ks.length := fun ks => by
    induction ks with
    | nil => intro vs _; simp [dputv]
    | cons a ks ih =>
      intro vs h
      cases vs with
      | nil => simp at h
      | cons v vs => simp only [dputv, List.length_cons]; rw [ih vs (by simpa using h)]
  unfold dput
  split
  · exact (hv ks vs h).symm
  · simp [h]
theorem dput_le (ks vs : List D) (x y : D) : (dput ks vs x y).1.length ≤ ks.length + 1 := by
  unfold dput
  split <;> simp
theorem dput_mem {ks vs : List D} {x y k : D} : k ∈ (dput ks vs x y).1 ↔ k = x ∨ k ∈ ks := by
  unfold dput
  split
  · rename_i h
    exact ⟨.inr, fun z => z.elim (fun e => by rw [e]; exact h) id⟩
  · simp [or_comm]
theorem dput_val {ks vs : List D} {x y v : D} (h : v ∈ (dput ks vs x y).2) : v = y ∨ v ∈ vs := by
  have hv : ∀ (ks vs : List D), v ∈ dputv ks vs x y → v = y ∨ v ∈ vs := fun ks => by
    induction ks with
    | nil => intro vs h; simp [dputv] at h
    | cons a ks ih =>
      intro vs h
      cases vs with
      | nil => simp [dputv] at h
      | cons w vs =>
        rw [dputv] at h
        rcases List.mem_cons.mp h with h | h
        · split at h
          · exact .inl h
          · exact .inr (by rw [h]; exact List.mem_cons_self ..)
        · exact (ih vs h).imp id (List.mem_cons_of_mem _)
  unfold dput at h
  split at h
  · exact hv ks vs h
  · rcases List.mem_append.mp h with h | h
    · exact .inr h
    · exact .inl (by simpa using h)
theorem dget_mem : ∀ {ks vs : List D} {x v : D}, dget ks vs x = some v → x ∈ ks ∧ v ∈ vs
  | [], _, _, _, h => by simp [dget] at h
  | _ :: _, [], _, _, h => by simp [dget] at h
  | k :: ks, w :: vs, x, v, h => by
    rw [dget] at h
    split at h
    · rename_i e
      cases h
      exact ⟨by rw [e]; exact List.mem_cons_self .., List.mem_cons_self ..⟩
    · obtain ⟨a, b⟩ := dget_mem h
      exact ⟨List.mem_cons_of_mem _ a, List.mem_cons_of_mem _ b⟩
theorem dget_none : ∀ {ks vs : List D} {x : D}, x ∉ ks → dget ks vs x = none
  | [], _, _, _ => by simp [dget]
  | _ :: _, [], _, _ => by simp [dget]
  | k :: ks, w :: vs, x, h => by
    rw [dget, if_neg (fun z => h (by rw [z]; exact List.mem_cons_self ..)), dget_none fun m => h (List.mem_cons_of_mem _ m)]
theorem dget_some : ∀ {ks vs : List D} {x : D}, ks.length = vs.length → x ∈ ks → ∃ v, dget ks vs x = some v
  | [], _, _, _, h => nomatch h
  | _ :: _, [], _, e, _ => by simp at e
  | k :: ks, w :: vs, x, e, h => by
    rw [dget]
    split
    · exact ⟨_, rfl⟩
    · rename_i ne
      rcases List.mem_cons.mp h with h | h
      · exact (ne h.symm).elim
      · exact dget_some (by simpa using e) h
theorem dget_dput {ks vs : List D} (h : ks.length = vs.length) (x y j : D) : dget (dput ks vs x y).1 (dput ks vs x y).2 j = if j = x then some y else dget ks vs j := by
  have h1 : ∀ (ks vs : List D), ks.length = vs.length → dget ks (dputv ks vs x y) j = if j = x ∧ x ∈ ks then some y else dget ks vs j := fun ks => by
    induction ks with
    | nil => intro vs _; simp [dget]
    | cons a ks ih =>
      intro vs h
      cases vs with
      | nil => simp at h
      | cons v vs =>
        rw [dputv, dget, dget, ih vs (by simpa using h)]
        by_cases e : a = j
        · subst e
          rw [if_pos rfl, if_pos rfl]
          by_cases e2 : a = x
          · subst e2; simp
          · rw [if_neg e2, if_neg (fun z => e2 z.1)]
        · rw [if_neg e, if_neg e]
          by_cases e2 : j = x
          · subst e2
            by_cases e3 : j ∈ ks
            · rw [if_pos ⟨rfl, e3⟩, if_pos ⟨rfl, List.mem_cons_of_mem _ e3⟩]
            · rw [if_neg (fun z => e3 z.2), if_neg (fun z => by
                rcases List.mem_cons.mp z.2 with z | z
                · exact e z.symm
                · exact e3 z)]
          · rw [if_neg (fun z => e2 z.1), if_neg (fun z => e2 z.1)]
  have h2 : ∀ (ks vs : List D), ks.length = vs.length → x ∉ ks → dget (ks ++ [x]) (vs ++ [y]) j = if j = x then some y else dget ks vs j := fun ks => by
    induction ks with
    | nil =>
      intro vs h _
      cases vs with
      | cons v vs => simp at h
      | nil =>
        show dget [x] [y] j = _
        rw [dget]
        by_cases e : x = j
        · rw [if_pos e, if_pos e.symm]
        · rw [if_neg e, if_neg (fun z => e z.symm)]; first | done | simp [dget]
    | cons a ks ih =>
      intro vs h n
      cases vs with
      | nil => simp at h
      | cons v vs =>
        rw [List.cons_append, List.cons_append, dget, dget, ih vs (by simpa using h) (fun m => n (List.mem_cons_of_mem _ m))]
        by_cases e : a = j
        · subst e
          rw [if_pos rfl, if_pos rfl, if_neg (fun z => n (by rw [z]; exact List.mem_cons_self ..))]
        · rw [if_neg e, if_neg e]
  unfold dput
  by_cases m : x ∈ ks
  · rw [if_pos m, h1 ks vs h]
    by_cases e : j = x
    · rw [if_pos ⟨e, m⟩, if_pos e]
    · rw [if_neg (fun z => e z.1), if_neg e]
  · rw [if_neg m]
    exact h2 ks vs h m
/-! ### the rules' functions, by their parts -/
theorem dDnew_ap (t : Bool) (ρ : Ev) (s : Sto) : dDnew t ρ s = .ok (.obj s.length) (s ++ [.dic t [] []]) := rfl
theorem sForK_ap (i : Nat) (t : Tg) (body : Sm) {ρ : Ev} (s : Sto) {tt : Bool} {ks vs : List D} (h : ρ[i]? = some (some (.dic tt ks vs))) : sForK i t body ρ s = noX (forD t body [] ks ρ s) := by unfold sForK; rw [h]
theorem noX_nx (ρ : Ev) (s : Sto) : noX (.nx ρ s) = .nx ρ s := rfl
theorem noX_rt (d : D) (s : Sto) : noX (.rt d s) = .rt d s := rfl
theorem gSubDT_ap {fo : Exp} {fi : Exps} {d o : D} {is : List D} {ρ : Ev} {s s1 s2 s3 : Sto} (h1 : fo ρ s = .ok o s1) (h2 : fi ρ s1 = .ok is s2) (h3 : setDT o is d s2 = some s3) : gSubDT fo fi d ρ s = some (ρ, s3) := by
  unfold gSubDT
  rw [h1]
  simp only [h2, h3, Option.map_some]
theorem gSubD2_ap {fo fi : Exp} {d o i : D} {ρ : Ev} {s s1 s2 s3 : Sto} (h1 : fo ρ s = .ok o s1) (h2 : fi ρ s1 = .ok i s2) (h3 : setD2 o i d s2 = some s3) : gSubD2 fo fi d ρ s = some (ρ, s3) := by
  unfold gSubD2
  rw [h1]
  simp only [h2, h3, Option.map_some]
theorem setDT_ap {n : Nat} {is ks vs : List D} {d : D} {s : Sto} (h : s[n]? = some (.dic true ks vs)) (hk : (keysK is).isSome = true) (hl : ks.length < 16777216) (hi : is.length ≤ 16777216) : setDT (.obj n) is d s = some (s.set n (.dic true (dput ks vs (.tup is) d).1 (dput ks vs (.tup is) d).2)) := by
  unfold setDT
  simp only [h]
  rw [if_pos ⟨hk, hl, hi⟩]
theorem setD2_ap {n : Nat} {i : D} {ks vs : List D} {d : D} {s : Sto} (h : s[n]? = some (.dic false ks vs)) (hk : (keyK i).isSome = true) (hl : ks.length < 16777216) : setD2 (.obj n) i d s = some (s.set n (.dic false (dput ks vs i d).1 (dput ks vs i d).2)) := by
  unfold setD2
  simp only [h]
  rw [if_pos ⟨hk, hl⟩]
theorem ixD2_dic {t : Bool} {ks vs : List D} {y : D} {s : Sto} (h : isK t y = true) : ixD2 (.dic t ks vs) y s = dget ks vs y := by
  unfold ixD2
  simp only [dob, if_pos h]
theorem ixD2_obj {n : Nat} {t : Bool} {ks vs : List D} {y : D} {s : Sto} (e : s[n]? = some (.dic t ks vs)) (h : isK t y = true) : ixD2 (.obj n) y s = dget ks vs y := by
  unfold ixD2
  simp only [dob, e, if_pos h]
theorem fz_dic {s : Sto} {t : Bool} {ks xs : List D} {k : Nat} (hx : ∀ x ∈ xs, olds s.length x = true) : fz (s ++ [.dic t ks xs]) s.length (k + 1) (.obj s.length) = some (.dic t ks xs) := by
  simp only [fz, olds, Nat.lt_irrefl, decide_false, Bool.false_eq_true, if_false, List.getElem?_concat_length, mapO_old hx, Option.map_some]
theorem exit_dic {s : Sto} {t : Bool} {ks xs : List D} (hs : Sk s) (hx : ∀ x ∈ xs, olds s.length x = true) : exitF s (.rt (.obj s.length) (s ++ [.dic t ks xs])) = .ok (.dic t ks xs) s :=
  exit_to rfl hs (fz_dic hx)
end Z

set_option Elab.async false
set_option linter.all false
set_option maxRecDepth 100000
set_option maxHeartbeats 2000000
/-! ### the text of law_k01_whole_threads_and_sides -/
namespace K01
open Z PySem PySem.Spec PyProof.Rows L2
def topS (i : Nat) : Stmt := PySem.Challenge.pw_clothholds_k01_whole_threads_and_sides.main.body.getD i (.Pass ⟨0, 0, 0, 0⟩)
structure Fx (K : PySem.W.Frag) (mg : Str → Option Value) : Prop where
  c_MOST : ∃ t, mg "MOST" = some (.int 12 t)
  n_abs : mg "abs" = none
  n_all : mg "all" = none
  n_bool : mg "bool" = none
  n_enumerate : mg "enumerate" = none
  n_int : mg "int" = none
  n_isinstance : mg "isinstance" = none
  n_len : mg "len" = none
  n_list : mg "list" = none
  n_range : mg "range" = none
  n_str : mg "str" = none
  n_tuple : mg "tuple" = none
  n_zip : mg "zip" = none
  c_DOWN : ∃ z t, mg "DOWN" = some (.str z t) ∧ z.cps.toList = [46] ∧ ([46] : List Nat).length ≤ 16777216
  c_UP : ∃ z t, mg "UP" = some (.str z t) ∧ z.cps.toList = [35] ∧ ([35] : List Nat).length ≤ 16777216
/-! _law_roll -/
abbrev s__law_roll : Stmt := topS 26
abbrev N__law_roll : List Str := ["cup", "many", "found", "deep"]
theorem sc__law_roll : FnScope N__law_roll ["cup", "many"] (defScope s__law_roll) := ⟨rfl, rfl, rfl, by decide +kernel, rfl, by decide +kernel, by decide +kernel⟩
def B__law_roll : Sm :=
  sSeq (sIf (dTst (dOp gtO (dOp ixD (dVar 0) (dC (.int 0))) (dC (.int 0)))) (sSeq (sAsg (dOp modD (dB intD (aCons (dOp ixD (dVar 0) (dC (.int 0))) (aNil))) (dVar 1)) (gN 2))
  (sSeq (sAsg (dOp fdivD (dOp ixD (dVar 0) (dC (.int 0))) (dVar 1)) (gSubD (dVar 0) (dC (.int 0))))
  (sRet (dVar 2)))) (sNil))
  (sSeq (sAsg (dOp modD (dB intD (aCons (dOp addD (dOp mulD2 (dOp ixD (dVar 0) (dC (.int 1))) (dC (.int 31051))) (dC (.int 7993))) (aNil))) (dC (.int 2147483543))) (gSubD (dVar 0) (dC (.int 1))))
  (sSeq (sAsg (dOp modD (dB intD (aCons (dOp mulD2 (dOp ixD (dVar 0) (dC (.int 1))) (dOp addD (dOp ixD (dVar 0) (dC (.int 1))) (dC (.int 229)))) (aNil))) (dC (.int 2147483587))) (gN 3))
  (sRet (dOp modD (dB intD (aCons (dOp fdivD (dVar 3) (dC (.int 821))) (aNil))) (dVar 1)))))
def G__law_roll : Fn := runB 2 4 B__law_roll
theorem ok__law_roll {P : Program} {w : World} {K : PySem.W.Frag} {mg : Str → Option Value} {base : Heap} (fx : Fx K mg) {f : Addr} {fd : FuncData} (F : Fun K "_law_roll" "_law_roll" s__law_roll f fd) (hm : mg "_law_roll" = some (.ref f)) (hb : Binds K fd ["cup", "many"] []) : Cal P w K mg base 1 "_law_roll" 2 G__law_roll :=
  have S := sc__law_roll
  cal_mk F hm hb (fn_ok exit_F F S (fun cdv A outer s H E hr tk =>
  (dss_cons (ds_if (dt_cmp o_gt (de_ix i_ix (de_var 0) de_int) de_int) (dss_cons (ds_set 2 S.nd (de_op o_mod (de_ty b_int bt_int fx.n_int (by rfl) (da_cons (de_ix i_ix (de_var 0) de_int) da_nil)) (de_var 1)))
  (dss_cons (ds_asg (de_op o_fdiv (de_ix i_ix (de_var 0) de_int) (de_var 1)) (dg_sub (de_var 0) de_int))
  (dss_one (ds_ret (de_var 2))))) dss_nil)
  (dss_cons (ds_asg (de_op o_mod (de_ty b_int bt_int fx.n_int (by rfl) (da_cons (de_op o_add (de_op o_mul2 (de_ix i_ix (de_var 0) de_int) de_int) de_int) da_nil)) de_int) (dg_sub (de_var 0) de_int))
  (dss_cons (ds_set 3 S.nd (de_op o_mod (de_ty b_int bt_int fx.n_int (by rfl) (da_cons (de_op o_mul2 (de_ix i_ix (de_var 0) de_int) (de_op o_add (de_ix i_ix (de_var 0) de_int) de_int)) da_nil)) de_int))
  (dss_one (ds_ret (de_op o_mod (de_ty b_int bt_int fx.n_int (by rfl) (da_cons (de_op o_fdiv (de_var 3) de_int) da_nil)) (de_var 1)))))))))
/-! _law_some -/
abbrev s__law_some : Stmt := topS 27
abbrev N__law_some : List Str := ["cup", "things"]
theorem sc__law_some : FnScope N__law_some ["cup", "things"] (defScope s__law_some) := ⟨rfl, rfl, rfl, by decide +kernel, rfl, by decide +kernel, by decide +kernel⟩
def B__law_some : Sm :=
  sRet (dOp ixD (dVar 1) (dFn G__law_roll (aCons (dVar 0) (aCons (dB lenD (aCons (dVar 1) (aNil))) (aNil)))))
def G__law_some : Fn := runB 2 2 B__law_some
theorem ok__law_some {P : Program} {w : World} {K : PySem.W.Frag} {mg : Str → Option Value} {base : Heap} (fx : Fx K mg) (C__law_roll : Cal P w K mg base 1 "_law_roll" 2 G__law_roll) {f : Addr} {fd : FuncData} (F : Fun K "_law_some" "_law_some" s__law_some f fd) (hm : mg "_law_some" = some (.ref f)) (hb : Binds K fd ["cup", "things"] []) : Cal P w K mg base 2 "_law_some" 2 G__law_some :=
  have S := sc__law_some
  cal_mk F hm hb (fn_ok exit_F F S (fun cdv A outer s H E hr tk =>
  (dss_one (ds_ret (de_ix i_ix (de_var 1) (de_call (C__law_roll.mono (by decide)) hr tk (by rfl) (da_cons (de_var 0) (da_cons (de_bf b_len bt_len fx.n_len (by rfl) (da_cons (de_var 1) da_nil)) da_nil))))))))
/-! _law_cloth -/
abbrev s__law_cloth : Stmt := topS 30
abbrev N__law_cloth : List Str := ["cup", "picks", "ends", "many", "wide", "way", "found", "repeat", "step", "cut", "pick", "row", "end", "sign", "turn"]
theorem sc__law_cloth : FnScope N__law_cloth ["cup", "picks", "ends"] (defScope s__law_cloth) := ⟨rfl, rfl, rfl, by decide +kernel, rfl, by decide +kernel, by decide +kernel⟩
def E1__law_cloth : Exp :=
  dFn G__law_some (aCons (dVar 0) (aCons (dLst (aCons (dC (.str [35])) (aCons (dC (.str [46])) (aNil)))) (aNil)))
def L1__law_cloth : Sm :=
  sSeq (sAsg (dIf (dTst (dOp eqO (dVar 5) (dC (.int 1)))) (dOp ixD (dVar 7) (dOp modD (dB intD (aCons (dOp addD (dVar 12) (dOp mulD2 (dVar 8) (dVar 10))) (aNil))) (dC (.int 5)))) (dFn G__law_some (aCons (dVar 0) (aCons (dIf (dTst (dOp eqO (dVar 5) (dC (.int 2)))) (dLst (aCons (dC (.str [35])) (aCons (dC (.str [46])) (aCons (dC (.str [46])) (aNil))))) (dLst (aCons (dC (.str [35])) (aCons (dC (.str [46])) (aNil))))) (aNil))))) (gN 13))
  (sAsg (dOp addD (dVar 11) (dIf (tAndD (dTst (dOp eqO (dVar 5) (dC (.int 3)))) (dTst (dOp gtO (dFn G__law_roll (aCons (dVar 0) (aCons (dC (.int 6)) (aNil)))) (dC (.int 0))))) (dIf (dTst (dOp ltO (dVar 12) (dVar 9))) (dC (.str [35])) (dC (.str [46]))) (dVar 13))) (gN 11))
def L2__law_cloth : Sm :=
  sSeq (sAsg (dC (.str [])) (gN 11))
  (sSeq (sFor (iA rng1A (aCons (dVar 4) (aNil))) (gN 12) (L1__law_cloth))
  (sExp (dM "list" appD (dVar 6) (aCons (dVar 11) (aNil)))))
def B__law_cloth : Sm :=
  sSeq (sPar 3 4 (aCons (dOp addD (dC (.int 1)) (dFn G__law_roll (aCons (dVar 0) (aCons (dVar 1) (aNil))))) (aCons (dOp addD (dC (.int 1)) (dFn G__law_roll (aCons (dVar 0) (aCons (dVar 2) (aNil))))) (aNil))))
  (sSeq (sPar 5 6 (aCons (dFn G__law_roll (aCons (dVar 0) (aCons (dC (.int 4)) (aNil)))) (aCons (dNew (aNil)) (aNil))))
  (sSeq (sPar3 7 8 9 (aCons (dComp (iA rng1A (aCons (dC (.int 5)) (aNil))) (gN 14) (tYesD) (E1__law_cloth) [14]) (aCons (dFn G__law_roll (aCons (dVar 0) (aCons (dC (.int 5)) (aNil)))) (aCons (dFn G__law_roll (aCons (dVar 0) (aCons (dOp addD (dVar 4) (dC (.int 1))) (aNil)))) (aNil)))))
  (sSeq (sFor (iA rng1A (aCons (dVar 3) (aNil))) (gN 10) (L2__law_cloth))
  (sRet (dB tupleD2 (aCons (dVar 6) (aNil)))))))
def G__law_cloth : Fn := runB 3 15 B__law_cloth
theorem ok__law_cloth {P : Program} {w : World} {K : PySem.W.Frag} {mg : Str → Option Value} {base : Heap} (fx : Fx K mg) (C__law_roll : Cal P w K mg base 1 "_law_roll" 2 G__law_roll) (C__law_some : Cal P w K mg base 2 "_law_some" 2 G__law_some) {f : Addr} {fd : FuncData} (F : Fun K "_law_cloth" "_law_cloth" s__law_cloth f fd) (hm : mg "_law_cloth" = some (.ref f)) (hb : Binds K fd ["cup", "picks", "ends"] []) : Cal P w K mg base 3 "_law_cloth" 3 G__law_cloth :=
  have S := sc__law_cloth
  cal_mk F hm hb (fn_ok exit_F F S (fun cdv A outer s H E hr tk =>
  (dss_cons (ds_par 3 4 rfl S.nd (da_cons (de_op o_add de_int (de_call (C__law_roll.mono (by decide)) hr tk (by rfl) (da_cons (de_var 0) (da_cons (de_var 1) da_nil)))) (da_cons (de_op o_add de_int (de_call (C__law_roll.mono (by decide)) hr tk (by rfl) (da_cons (de_var 0) (da_cons (de_var 2) da_nil)))) da_nil)))
  (dss_cons (ds_par 5 6 rfl S.nd (da_cons (de_call (C__law_roll.mono (by decide)) hr tk (by rfl) (da_cons (de_var 0) (da_cons de_int da_nil))) (da_cons (de_new da_nil) da_nil)))
  (dss_cons (ds_par3 7 8 9 rfl S.nd (da_cons (de_comp (own := [("turn", 14)]) rfl S.nd ⟨(quiet_gN 14), (di_range1 fx.n_range (by rfl) (da_cons de_int da_nil)), blkOk_by (N := N__law_cloth) (sc := defScope s__law_cloth) (own := [("turn", 14)]) (by decide +kernel), fun s H C_ cl fp => (dgc_name 14 S.nd), fun s H C_ cl fp => dts_nil, fun s H C_ cl fp => (de_call (C__law_some.mono (by decide)) hr takes0 (by rfl) (da_cons (de_var 0) (da_cons (de_lst (da_cons (de_str [35]) (da_cons (de_str [46]) da_nil))) da_nil)))⟩) (da_cons (de_call (C__law_roll.mono (by decide)) hr tk (by rfl) (da_cons (de_var 0) (da_cons de_int da_nil))) (da_cons (de_call (C__law_roll.mono (by decide)) hr tk (by rfl) (da_cons (de_var 0) (da_cons (de_op o_add (de_var 4) de_int) da_nil))) da_nil))))
  (dss_cons (ds_for (passes_of rfl) rfl (di_range1 fx.n_range (by rfl) (da_cons (de_var 3) da_nil)) (dg_name 10 S.nd) (dss_cons (ds_set 11 S.nd (de_str []))
  (dss_cons (ds_for (passes_of rfl) rfl (di_range1 fx.n_range (by rfl) (da_cons (de_var 4) da_nil)) (dg_name 12 S.nd) (dss_cons (ds_set 13 S.nd (de_if (dt_cmp (o_eq (uu64 hr)) (de_var 5) de_int) (de_ix i_ix (de_var 7) (de_op o_mod (de_ty b_int bt_int fx.n_int (by rfl) (da_cons (de_op o_add (de_var 12) (de_op o_mul2 (de_var 8) (de_var 10))) da_nil)) de_int)) (de_call (C__law_some.mono (by decide)) hr tk (by rfl) (da_cons (de_var 0) (da_cons (de_if (dt_cmp (o_eq (uu64 hr)) (de_var 5) de_int) (de_lst (da_cons (de_str [35]) (da_cons (de_str [46]) (da_cons (de_str [46]) da_nil)))) (de_lst (da_cons (de_str [35]) (da_cons (de_str [46]) da_nil)))) da_nil)))))
  (dss_one (ds_set 11 S.nd (de_op o_add (de_var 11) (de_if (dt_bool (dw_and (dt_cmp (o_eq (uu64 hr)) (de_var 5) de_int) (dw_one_and (dt_cmp o_gt (de_call (C__law_roll.mono (by decide)) hr tk (by rfl) (da_cons (de_var 0) (da_cons de_int da_nil))) de_int)))) (de_if (dt_cmp (o_lt (uu64 hr)) (de_var 12) (de_var 9)) (de_str [35]) (de_str [46])) (de_var 13)))))))
  (dss_one (ds_expr (de_bm PySem.F.plainAttrs_list PySem.F.slot_list_append PySem.F.type_list_append m_append (de_var 6) (da_cons (de_var 11) da_nil)))))))
  (dss_one (ds_ret (de_ty (b_tuple2 rfl) bt_tuple fx.n_tuple (by rfl) (da_cons (de_var 6) da_nil))))))))))
/-! _law_cup -/
abbrev s__law_cup : Stmt := topS 25
abbrev N__law_cup : List Str := ["script", "cell"]
theorem sc__law_cup : FnScope N__law_cup ["script"] (defScope s__law_cup) := ⟨rfl, rfl, rfl, by decide +kernel, rfl, by decide +kernel, by decide +kernel⟩
def B__law_cup : Sm :=
  sSeq (sAsg (dB absD (aCons (dOp ixD (dOp addD (dB listD2 (aCons (dVar 0) (aNil))) (dLst (aCons (dC (.int 0)) (aNil)))) (dC (.int 0))) (aNil))) (gN 1))
  (sRet (dNew (aCons (dIf (dTst (dOp geO (dVar 1) (dOp powD (dC (.int 10)) (dC (.int 18))))) (dOp fdivD (dVar 1) (dC (.int 73))) (dC (.int 0))) (aCons (dOp addD (dOp modD (dB intD (aCons (dOp addD (dOp mulD2 (dVar 1) (dC (.int 283))) (dC (.int 3907))) (aNil))) (dC (.int 2077503167))) (dC (.int 167))) (aNil)))))
def G__law_cup : Fn := runN 1 2 B__law_cup
theorem ok__law_cup {P : Program} {w : World} {K : PySem.W.Frag} {mg : Str → Option Value} {base : Heap} (fx : Fx K mg) {f : Addr} {fd : FuncData} (F : Fun K "_law_cup" "_law_cup" s__law_cup f fd) (hm : mg "_law_cup" = some (.ref f)) (hb : Binds K fd ["script"] []) : Cal P w K mg base 1 "_law_cup" 1 G__law_cup :=
  have S := sc__law_cup
  cal_mk F hm hb (fn_ok exit_N F S (fun cdv A outer s H E hr tk =>
  (dss_cons (ds_set 1 S.nd (de_bf b_abs bt_abs fx.n_abs (by rfl) (da_cons (de_ix i_ix (de_op o_add (de_ty (b_list2 rfl) bt_list fx.n_list (by rfl) (da_cons (de_var 0) da_nil)) (de_lst (da_cons de_int da_nil))) de_int) da_nil)))
  (dss_one (ds_ret (de_new (da_cons (de_if (dt_cmp o_ge (de_var 1) (de_op o_pow de_int de_int)) (de_op o_fdiv (de_var 1) de_int) de_int) (da_cons (de_op o_add (de_op o_mod (de_ty b_int bt_int fx.n_int (by rfl) (da_cons (de_op o_add (de_op o_mul2 (de_var 1) de_int) de_int) da_nil)) de_int) de_int) da_nil))))))))
/-! _law_sort -/
abbrev s__law_sort : Stmt := topS 28
abbrev N__law_sort : List Str := ["value"]
theorem sc__law_sort : FnScope N__law_sort ["value"] (defScope s__law_sort) := ⟨rfl, rfl, rfl, by decide +kernel, rfl, by decide +kernel, by decide +kernel⟩
def B__law_sort : Sm :=
  sSeq (sIf (tOrD (dTst (dOp isO (dVar 0) (dC .non))) (dTst (dB isiD (aCons (dVar 0) (aCons (dC (.ty "bool")) (aNil)))))) (sRet (dIf (dTst (dOp isO (dVar 0) (dC .non))) (dC (.int 0)) (dC (.int 1)))) (sNil))
  (sSeq (sIf (tOrD (dTst (dB isiD (aCons (dVar 0) (aCons (dC (.ty "int")) (aNil))))) (dTst (dB isiD (aCons (dVar 0) (aCons (dC (.ty "str")) (aNil)))))) (sRet (dIf (dTst (dB isiD (aCons (dVar 0) (aCons (dC (.ty "int")) (aNil))))) (dC (.int 2)) (dC (.int 3)))) (sNil))
  (sRet (dIf (dTst (dB isiD (aCons (dVar 0) (aCons (dC (.ty "tuple")) (aNil))))) (dC (.int 4)) (dIf (dTst (dB isiD (aCons (dVar 0) (aCons (dC (.ty "list")) (aNil))))) (dC (.int 5)) (dC (.int 6))))))
def G__law_sort : Fn := runB 1 1 B__law_sort
theorem ok__law_sort {P : Program} {w : World} {K : PySem.W.Frag} {mg : Str → Option Value} {base : Heap} (fx : Fx K mg) {f : Addr} {fd : FuncData} (F : Fun K "_law_sort" "_law_sort" s__law_sort f fd) (hm : mg "_law_sort" = some (.ref f)) (hb : Binds K fd ["value"] []) : Cal P w K mg base 1 "_law_sort" 1 G__law_sort :=
  have S := sc__law_sort
  cal_mk F hm hb (fn_ok exit_F F S (fun cdv A outer s H E hr tk =>
  (dss_cons (ds_if (dt_bool (dw_or (dt_cmp o_is (de_var 0) de_non) (dw_one_or (dt_val (de_bf b_isi bt_isinstance fx.n_isinstance (by rfl) (da_cons (de_var 0) (da_cons (de_tyName (by rfl) fx.n_bool bt_bool) da_nil))))))) (dss_one (ds_ret (de_if (dt_cmp o_is (de_var 0) de_non) de_int de_int))) dss_nil)
  (dss_cons (ds_if (dt_bool (dw_or (dt_val (de_bf b_isi bt_isinstance fx.n_isinstance (by rfl) (da_cons (de_var 0) (da_cons (de_tyName (by rfl) fx.n_int bt_int) da_nil)))) (dw_one_or (dt_val (de_bf b_isi bt_isinstance fx.n_isinstance (by rfl) (da_cons (de_var 0) (da_cons (de_tyName (by rfl) fx.n_str bt_str) da_nil))))))) (dss_one (ds_ret (de_if (dt_val (de_bf b_isi bt_isinstance fx.n_isinstance (by rfl) (da_cons (de_var 0) (da_cons (de_tyName (by rfl) fx.n_int bt_int) da_nil)))) de_int de_int))) dss_nil)
  (dss_one (ds_ret (de_if (dt_val (de_bf b_isi bt_isinstance fx.n_isinstance (by rfl) (da_cons (de_var 0) (da_cons (de_tyName (by rfl) fx.n_tuple bt_tuple) da_nil)))) de_int (de_if (dt_val (de_bf b_isi bt_isinstance fx.n_isinstance (by rfl) (da_cons (de_var 0) (da_cons (de_tyName (by rfl) fx.n_list bt_list) da_nil)))) de_int de_int))))))))
/-! _law_like -/
abbrev s__law_like : Stmt := topS 29
abbrev N__law_like : List Str := ["one", "other", "sort", "first", "second"]
theorem sc__law_like : FnScope N__law_like ["one", "other"] (defScope s__law_like) := ⟨rfl, rfl, rfl, by decide +kernel, rfl, by decide +kernel, by decide +kernel⟩
def T1__law_like (G : Fn) : Tst :=
  tNotD (dTst (dFn G (aCons (dVar 3) (aCons (dVar 4) (aNil)))))
def B__law_like (G : Fn) : Sm :=
  sSeq (sAsg (dFn G__law_sort (aCons (dVar 1) (aNil))) (gN 2))
  (sSeq (sIf (tOrD (dTst (dOp neO (dFn G__law_sort (aCons (dVar 0) (aNil))) (dVar 2))) (dTst (dOp eqO (dVar 2) (dC (.int 6))))) (sRet (dC (.bl false))) (sNil))
  (sSeq (sIf (dTst (dOp inO (dVar 2) (dTup (aCons (dC (.int 4)) (aCons (dC (.int 5)) (aNil)))))) (sRet (dAnd (dOp eqO (dB lenD (aCons (dVar 0) (aNil))) (dB lenD (aCons (dVar 1) (aNil)))) (dOp eqO (dComp (iA zipA2 (aCons (dVar 0) (aCons (dVar 1) (aNil)))) (gTupD 2 (gsCons (gN 3) (gsCons (gN 4) (gsNil)))) ((T1__law_like G)) (dC (.int 1)) [3, 4]) (dLst (aNil))))) (sNil))
  (sRet (dOp eqO (dVar 0) (dVar 1)))))
def H__law_like : Nat → Fn
  | 0 => fun _ _ => .no
  | n + 1 => runB 2 5 (B__law_like (H__law_like n))
def G__law_like : Fn := H__law_like 8
theorem st__law_like {P : Program} {w : World} {K : PySem.W.Frag} {mg : Str → Option Value} {base : Heap} (fx : Fx K mg) (C__law_sort : Cal P w K mg base 1 "_law_sort" 1 G__law_sort) {f : Addr} {fd : FuncData} (F : Fun K "_law_like" "_law_like" s__law_like f fd) (hm : mg "_law_like" = some (.ref f)) (hb : Binds K fd ["one", "other"] []) {k : Nat} {G : Fn} (hk : 1 ≤ k) (C : Cal P w K mg base k "_law_like" 2 G) : Cal P w K mg base (k + 1) "_law_like" 2 (runB 2 5 (B__law_like G)) :=
  have S := sc__law_like
  cal_mk F hm hb (fn_ok exit_F F S (fun cdv A outer s H E hr tk =>
  (dss_cons (ds_set 2 S.nd (de_call (C__law_sort.mono (by omega)) hr tk (by rfl) (da_cons (de_var 1) da_nil)))
  (dss_cons (ds_if (dt_bool (dw_or (dt_cmp (o_ne (uu64 hr)) (de_call (C__law_sort.mono (by omega)) hr tk (by rfl) (da_cons (de_var 0) da_nil)) (de_var 2)) (dw_one_or (dt_cmp (o_eq (uu64 hr)) (de_var 2) de_int)))) (dss_one (ds_ret de_bl)) dss_nil)
  (dss_cons (ds_if (dt_cmp (o_in (uu64 hr)) (de_var 2) (de_tup (da_cons de_int (da_cons de_int da_nil)))) (dss_one (ds_ret (de_and (de_cmp (o_eq (uu64 hr)) (de_bf b_len bt_len fx.n_len (by rfl) (da_cons (de_var 0) da_nil)) (de_bf b_len bt_len fx.n_len (by rfl) (da_cons (de_var 1) da_nil))) (de_one (de_cmp (o_eq (uu64 hr)) (de_comp (own := [("first", 3), ("second", 4)]) rfl S.nd ⟨(quiet_tup (quiets_cons (quiet_gN 3) (quiets_cons (quiet_gN 4) quiets_nil))), (di_zip2 fx.n_zip (by rfl) (da_cons (de_var 0) (da_cons (de_var 1) da_nil))), blkOk_by (N := N__law_like) (sc := defScope s__law_like) (own := [("first", 3), ("second", 4)]) (by decide +kernel), fun s H C_ cl fp => (dgc_tup rfl (dgcs_cons (quiet_gN 3) (dgc_name 3 S.nd) (dgcs_cons (quiet_gN 4) (dgc_name 4 S.nd) dgcs_nil))), fun s H C_ cl fp => (dts_one (dt_not (dt_val (de_call C hr takes0 (by rfl) (da_cons (de_var 3) (da_cons (de_var 4) da_nil)))))), fun s H C_ cl fp => de_int⟩) (de_lst da_nil)))))) dss_nil)
  (dss_one (ds_ret (de_cmp (o_eq (uu64 hr)) (de_var 0) (de_var 1)))))))))
theorem ok__law_like {P : Program} {w : World} {K : PySem.W.Frag} {mg : Str → Option Value} {base : Heap} (fx : Fx K mg) (C__law_sort : Cal P w K mg base 1 "_law_sort" 1 G__law_sort) {f : Addr} {fd : FuncData} (F : Fun K "_law_like" "_law_like" s__law_like f fd) (hm : mg "_law_like" = some (.ref f)) (hb : Binds K fd ["one", "other"] []) : Cal P w K mg base 10 "_law_like" 2 G__law_like := by
  have h : ∀ n, Cal P w K mg base (2 + n) "_law_like" 2 (H__law_like n) := fun n => by
    induction n with
    | zero => exact cal_no F hm hb
    | succ n ih => exact st__law_like fx C__law_sort (k := 2 + n) F hm hb (by omega) ih
  exact h 8
/-! _law_canvas -/
abbrev s__law_canvas : Stmt := topS 31
abbrev N__law_canvas : List Str := ["cloth", "found", "pick", "row", "end", "sign"]
theorem sc__law_canvas : FnScope N__law_canvas ["cloth"] (defScope s__law_canvas) := ⟨rfl, rfl, rfl, by decide +kernel, rfl, by decide +kernel, by decide +kernel⟩
def L1__law_canvas : Sm :=
  sAsg (dOp eqO (dVar 5) (dC (.str [35]))) (gSubDT (dVar 1) (aCons (dVar 2) (aCons (dVar 4) (aNil))))
def L2__law_canvas : Sm :=
  sFor (iA enumA2 (aCons (dVar 3) (aNil))) (gTupD 2 (gsCons (gN 4) (gsCons (gN 5) (gsNil)))) (L1__law_canvas)
def B__law_canvas : Sm :=
  sSeq (sAsg (dDnew true) (gN 1))
  (sSeq (sFor (iA enumA2 (aCons (dVar 0) (aNil))) (gTupD 2 (gsCons (gN 2) (gsCons (gN 3) (gsNil)))) (L2__law_canvas))
  (sRet (dVar 1)))
def G__law_canvas : Fn := runB 1 6 B__law_canvas
theorem ok__law_canvas {P : Program} {w : World} {K : PySem.W.Frag} {mg : Str → Option Value} {base : Heap} (fx : Fx K mg) {f : Addr} {fd : FuncData} (F : Fun K "_law_canvas" "_law_canvas" s__law_canvas f fd) (hm : mg "_law_canvas" = some (.ref f)) (hb : Binds K fd ["cloth"] []) : Cal P w K mg base 1 "_law_canvas" 1 G__law_canvas :=
  have S := sc__law_canvas
  cal_mk F hm hb (fn_ok exit_F F S (fun cdv A outer s H E hr tk =>
  (dss_cons (ds_set 1 S.nd de_dnewT)
  (dss_cons (ds_for (passes_of rfl) rfl (di_enum2 fx.n_enumerate (by rfl) (da_cons (de_var 0) da_nil)) (dg_tup rfl (dgs_cons (dg_name 2 S.nd) (dgs_cons (dg_name 3 S.nd) dgs_nil))) (dss_one (ds_for (passes_of rfl) rfl (di_enum2 fx.n_enumerate (by rfl) (da_cons (de_var 3) da_nil)) (dg_tup rfl (dgs_cons (dg_name 4 S.nd) (dgs_cons (dg_name 5 S.nd) dgs_nil))) (dss_one (ds_asg (de_cmp (o_eq (uu64 hr)) (de_var 5) (de_str [35])) (dg_subT (uu1 hr) (de_var 1) (da_cons (de_var 2) (da_cons (de_var 4) da_nil))))))))
  (dss_one (ds_ret (de_var 1)))))))
/-! _law_seen -/
abbrev s__law_seen : Stmt := topS 32
abbrev N__law_seen : List Str := ["canvas", "picks", "ends", "pick", "end"]
theorem sc__law_seen : FnScope N__law_seen ["canvas", "picks", "ends"] (defScope s__law_seen) := ⟨rfl, rfl, rfl, by decide +kernel, rfl, by decide +kernel, by decide +kernel⟩
def E1__law_seen : Exp :=
  dIf (dTst (dOp ixD2 (dVar 0) (dTup (aCons (dVar 3) (aCons (dVar 4) (aNil)))))) (dC (.str [35])) (dC (.str [46]))
def E2__law_seen : Exp :=
  dM "str" joinD (dC (.str [])) (aCons (dComp (iA rng1A (aCons (dVar 2) (aNil))) (gN 4) (tYesD) (E1__law_seen) [4]) (aNil))
def B__law_seen : Sm :=
  sRet (dB tupleD2 (aCons (dComp (iA rng1A (aCons (dVar 1) (aNil))) (gN 3) (tYesD) (E2__law_seen) [3]) (aNil)))
def G__law_seen : Fn := runB 3 5 B__law_seen
theorem ok__law_seen {P : Program} {w : World} {K : PySem.W.Frag} {mg : Str → Option Value} {base : Heap} (fx : Fx K mg) {f : Addr} {fd : FuncData} (F : Fun K "_law_seen" "_law_seen" s__law_seen f fd) (hm : mg "_law_seen" = some (.ref f)) (hb : Binds K fd ["canvas", "picks", "ends"] []) : Cal P w K mg base 1 "_law_seen" 3 G__law_seen :=
  have S := sc__law_seen
  cal_mk F hm hb (fn_ok exit_F F S (fun cdv A outer s H E hr tk =>
  (dss_one (ds_ret (de_ty (b_tuple2 rfl) bt_tuple fx.n_tuple (by rfl) (da_cons (de_comp (own := [("pick", 3)]) rfl S.nd ⟨(quiet_gN 3), (di_range1 fx.n_range (by rfl) (da_cons (de_var 1) da_nil)), blkOk_by (N := N__law_seen) (sc := defScope s__law_seen) (own := [("pick", 3)]) (by decide +kernel), fun s H C_ cl fp => (dgc_name 3 S.nd), fun s H C_ cl fp => dts_nil, fun s H C_ cl fp => (de_bm PySem.F.plainAttrs_str PySem.F.slot_str_join PySem.F.type_str_join m_join (de_str []) (da_cons (de_comp (own := [("end", 4)]) rfl S.nd ⟨(quiet_gN 4), (di_range1 fx.n_range (by rfl) (da_cons (de_var 2) da_nil)), blkOk_by (own := [("end", 4)]) (by kernel_rfl), fun s H C_ cl fp => (dgc_name 4 S.nd), fun s H C_ cl fp => dts_nil, fun s H C_ cl fp => (de_if (dt_val (de_ix (i_ix2 (uu1 hr)) (de_var 0) (de_tup (da_cons (de_var 3) (da_cons (de_var 4) da_nil))))) (de_str [35]) (de_str [46]))⟩) da_nil))⟩) da_nil))))))
/-! is_tuple_of -/
abbrev s_is_tuple_of : Stmt := topS 9
abbrev N_is_tuple_of : List Str := ["value", "low", "high"]
theorem sc_is_tuple_of : FnScope N_is_tuple_of ["value", "low", "high"] (defScope s_is_tuple_of) := ⟨rfl, rfl, rfl, by decide +kernel, rfl, by decide +kernel, by decide +kernel⟩
def B_is_tuple_of : Sm :=
  sRet (dAnd (dB isiD (aCons (dVar 0) (aCons (dC (.ty "tuple")) (aNil)))) (dChain leO leO (dVar 1) (dB lenD (aCons (dVar 0) (aNil))) (dVar 2)))
def G_is_tuple_of : Fn := runB 3 3 B_is_tuple_of
theorem ok_is_tuple_of {P : Program} {w : World} {K : PySem.W.Frag} {mg : Str → Option Value} {base : Heap} (fx : Fx K mg) {f : Addr} {fd : FuncData} (F : Fun K "is_tuple_of" "is_tuple_of" s_is_tuple_of f fd) (hm : mg "is_tuple_of" = some (.ref f)) (hb : Binds K fd ["value", "low", "high"] []) : Cal P w K mg base 1 "is_tuple_of" 3 G_is_tuple_of :=
  have S := sc_is_tuple_of
  cal_mk F hm hb (fn_ok exit_F F S (fun cdv A outer s H E hr tk =>
  (dss_one (ds_ret (de_and (de_bf b_isi bt_isinstance fx.n_isinstance (by rfl) (da_cons (de_var 0) (da_cons (de_tyName (by rfl) fx.n_tuple bt_tuple) da_nil))) (de_one (de_chain o_le o_le (de_var 1) (de_bf b_len bt_len fx.n_len (by rfl) (da_cons (de_var 0) da_nil)) (de_var 2))))))))
/-! is_word -/
abbrev s_is_word : Stmt := topS 10
abbrev N_is_word : List Str := ["value", "signs", "low", "high", "sign"]
theorem sc_is_word : FnScope N_is_word ["value", "signs", "low", "high"] (defScope s_is_word) := ⟨rfl, rfl, rfl, by decide +kernel, rfl, by decide +kernel, by decide +kernel⟩
def E1_is_word : Exp :=
  dOp inO (dVar 4) (dVar 1)
def B_is_word : Sm :=
  sRet (dAnd (dB isiD (aCons (dVar 0) (aCons (dC (.ty "str")) (aNil)))) (dAnd (dChain leO leO (dVar 2) (dB lenD (aCons (dVar 0) (aNil))) (dVar 3)) (dB allD (aCons (dComp (iSeq (dVar 0)) (gN 4) (tYesD) (E1_is_word) [4]) (aNil)))))
def G_is_word : Fn := runB 4 5 B_is_word
theorem ok_is_word {P : Program} {w : World} {K : PySem.W.Frag} {mg : Str → Option Value} {base : Heap} (fx : Fx K mg) {f : Addr} {fd : FuncData} (F : Fun K "is_word" "is_word" s_is_word f fd) (hm : mg "is_word" = some (.ref f)) (hb : Binds K fd ["value", "signs", "low", "high"] []) : Cal P w K mg base 1 "is_word" 4 G_is_word :=
  have S := sc_is_word
  cal_mk F hm hb (fn_ok exit_F F S (fun cdv A outer s H E hr tk =>
  (dss_one (ds_ret (de_and (de_bf b_isi bt_isinstance fx.n_isinstance (by rfl) (da_cons (de_var 0) (da_cons (de_tyName (by rfl) fx.n_str bt_str) da_nil))) (de_and (de_chain o_le o_le (de_var 2) (de_bf b_len bt_len fx.n_len (by rfl) (da_cons (de_var 0) da_nil)) (de_var 3)) (de_one (de_bf (b_all rfl) bt_all fx.n_all (by rfl) (da_cons (de_comp (own := [("sign", 4)]) rfl S.nd ⟨(quiet_gN 4), (di_seq (de_var 0)), blkOk_by (N := N_is_word) (sc := defScope s_is_word) (own := [("sign", 4)]) (by decide +kernel), fun s H C_ cl fp => (dgc_name 4 S.nd), fun s H C_ cl fp => dts_nil, fun s H C_ cl fp => (de_cmp (o_in (uu64 hr)) (de_var 4) (de_var 1))⟩) da_nil)))))))))
/-! fits_cloth -/
abbrev s_fits_cloth : Stmt := topS 11
abbrev N_fits_cloth : List Str := ["value", "pick"]
theorem sc_fits_cloth : FnScope N_fits_cloth ["value"] (defScope s_fits_cloth) := ⟨rfl, rfl, rfl, by decide +kernel, rfl, by decide +kernel, by decide +kernel⟩
def E1_fits_cloth : Exp :=
  dFn G_is_word (aCons (dVar 1) (aCons (dOp addD (dC (.str [35])) (dC (.str [46]))) (aCons (dC (.int 1)) (aCons (dC (.int 12)) (aNil)))))
def E2_fits_cloth : Exp :=
  dOp eqO (dB lenD (aCons (dVar 1) (aNil))) (dB lenD (aCons (dOp ixD (dVar 0) (dC (.int 0))) (aNil)))
def B_fits_cloth : Sm :=
  sSeq (sIf (tOrD (tNotD (dTst (dFn G_is_tuple_of (aCons (dVar 0) (aCons (dC (.int 1)) (aCons (dC (.int 12)) (aNil))))))) (tNotD (dTst (dB allD (aCons (dComp (iSeq (dVar 0)) (gN 1) (tYesD) (E1_fits_cloth) [1]) (aNil)))))) (sRet (dC (.bl false))) (sNil))
  (sRet (dB allD (aCons (dComp (iSeq (dVar 0)) (gN 1) (tYesD) (E2_fits_cloth) [1]) (aNil))))
def G_fits_cloth : Fn := runB 1 2 B_fits_cloth
theorem ok_fits_cloth {P : Program} {w : World} {K : PySem.W.Frag} {mg : Str → Option Value} {base : Heap} (fx : Fx K mg) (C_is_tuple_of : Cal P w K mg base 1 "is_tuple_of" 3 G_is_tuple_of) (C_is_word : Cal P w K mg base 1 "is_word" 4 G_is_word) {f : Addr} {fd : FuncData} (F : Fun K "fits_cloth" "fits_cloth" s_fits_cloth f fd) (hm : mg "fits_cloth" = some (.ref f)) (hb : Binds K fd ["value"] []) : Cal P w K mg base 2 "fits_cloth" 1 G_fits_cloth :=
  have S := sc_fits_cloth
  cal_mk F hm hb (fn_ok exit_F F S (fun cdv A outer s H E hr tk =>
  (dss_cons (ds_if (dt_bool (dw_or (dt_not (dt_val (de_call (C_is_tuple_of.mono (by decide)) hr tk (by rfl) (da_cons (de_var 0) (da_cons de_int (da_cons (de_globI fx.c_MOST (by rfl)) da_nil)))))) (dw_one_or (dt_not (dt_val (de_bf (b_all rfl) bt_all fx.n_all (by rfl) (da_cons (de_comp (own := [("pick", 1)]) rfl S.nd ⟨(quiet_gN 1), (di_seq (de_var 0)), blkOk_by (N := N_fits_cloth) (sc := defScope s_fits_cloth) (own := [("pick", 1)]) (by decide +kernel), fun s H C_ cl fp => (dgc_name 1 S.nd), fun s H C_ cl fp => dts_nil, fun s H C_ cl fp => (de_call (C_is_word.mono (by decide)) hr takes0 (by rfl) (da_cons (de_var 1) (da_cons (de_op o_add (de_globS fx.c_UP (by rfl)) (de_globS fx.c_DOWN (by rfl))) (da_cons de_int (da_cons (de_globI fx.c_MOST (by rfl)) da_nil)))))⟩) da_nil))))))) (dss_one (ds_ret de_bl)) dss_nil)
  (dss_one (ds_ret (de_bf (b_all rfl) bt_all fx.n_all (by rfl) (da_cons (de_comp (own := [("pick", 1)]) rfl S.nd ⟨(quiet_gN 1), (di_seq (de_var 0)), blkOk_by (N := N_fits_cloth) (sc := defScope s_fits_cloth) (own := [("pick", 1)]) (by decide +kernel), fun s H C_ cl fp => (dgc_name 1 S.nd), fun s H C_ cl fp => dts_nil, fun s H C_ cl fp => (de_cmp (o_eq (uu64 hr)) (de_bf b_len bt_len fx.n_len (by rfl) (da_cons (de_var 1) da_nil)) (de_bf b_len bt_len fx.n_len (by rfl) (da_cons (de_ix i_ix (de_var 0) de_int) da_nil)))⟩) da_nil)))))))
/-! need_cloth -/
abbrev s_need_cloth : Stmt := topS 12
abbrev N_need_cloth : List Str := ["value"]
theorem sc_need_cloth : FnScope N_need_cloth ["value"] (defScope s_need_cloth) := ⟨rfl, rfl, rfl, by decide +kernel, rfl, by decide +kernel, by decide +kernel⟩
def B_need_cloth : Sm :=
  sIf (tNotD (dTst (dFn G_fits_cloth (aCons (dVar 0) (aNil))))) (sNo) (sNil)
def G_need_cloth : Fn := runB 1 1 B_need_cloth
theorem ok_need_cloth {P : Program} {w : World} {K : PySem.W.Frag} {mg : Str → Option Value} {base : Heap} (fx : Fx K mg) (C_fits_cloth : Cal P w K mg base 2 "fits_cloth" 1 G_fits_cloth) {f : Addr} {fd : FuncData} (F : Fun K "need_cloth" "need_cloth" s_need_cloth f fd) (hm : mg "need_cloth" = some (.ref f)) (hb : Binds K fd ["value"] []) : Cal P w K mg base 3 "need_cloth" 1 G_need_cloth :=
  have S := sc_need_cloth
  cal_mk F hm hb (fn_ok exit_F F S (fun cdv A outer s H E hr tk =>
  (dss_one (ds_if (dt_not (dt_val (de_call (C_fits_cloth.mono (by decide)) hr tk (by rfl) (da_cons (de_var 0) da_nil)))) (dss_one ds_never) dss_nil))))
/-! other_sign -/
abbrev s_other_sign : Stmt := topS 17
abbrev N_other_sign : List Str := ["sign"]
theorem sc_other_sign : FnScope N_other_sign ["sign"] (defScope s_other_sign) := ⟨rfl, rfl, rfl, by decide +kernel, rfl, by decide +kernel, by decide +kernel⟩
def B_other_sign : Sm :=
  sRet (dIf (dTst (dOp eqO (dVar 0) (dC (.str [35])))) (dC (.str [46])) (dC (.str [35])))
def G_other_sign : Fn := runB 1 1 B_other_sign
theorem ok_other_sign {P : Program} {w : World} {K : PySem.W.Frag} {mg : Str → Option Value} {base : Heap} (fx : Fx K mg) {f : Addr} {fd : FuncData} (F : Fun K "other_sign" "other_sign" s_other_sign f fd) (hm : mg "other_sign" = some (.ref f)) (hb : Binds K fd ["sign"] []) : Cal P w K mg base 1 "other_sign" 1 G_other_sign :=
  have S := sc_other_sign
  cal_mk F hm hb (fn_ok exit_F F S (fun cdv A outer s H E hr tk =>
  (dss_one (ds_ret (de_if (dt_cmp (o_eq (uu64 hr)) (de_var 0) (de_globS fx.c_UP (by rfl))) (de_globS fx.c_DOWN (by rfl)) (de_globS fx.c_UP (by rfl)))))))
/-! swapped -/
abbrev s_swapped : Stmt := topS 18
abbrev N_swapped : List Str := ["pick", "sign"]
theorem sc_swapped : FnScope N_swapped ["pick"] (defScope s_swapped) := ⟨rfl, rfl, rfl, by decide +kernel, rfl, by decide +kernel, by decide +kernel⟩
def E1_swapped : Exp :=
  dFn G_other_sign (aCons (dVar 1) (aNil))
def B_swapped : Sm :=
  sRet (dM "str" joinD (dC (.str [])) (aCons (dComp (iSeq (dVar 0)) (gN 1) (tYesD) (E1_swapped) [1]) (aNil)))
def G_swapped : Fn := runB 1 2 B_swapped
theorem ok_swapped {P : Program} {w : World} {K : PySem.W.Frag} {mg : Str → Option Value} {base : Heap} (fx : Fx K mg) (C_other_sign : Cal P w K mg base 1 "other_sign" 1 G_other_sign) {f : Addr} {fd : FuncData} (F : Fun K "swapped" "swapped" s_swapped f fd) (hm : mg "swapped" = some (.ref f)) (hb : Binds K fd ["pick"] []) : Cal P w K mg base 2 "swapped" 1 G_swapped :=
  have S := sc_swapped
  cal_mk F hm hb (fn_ok exit_F F S (fun cdv A outer s H E hr tk =>
  (dss_one (ds_ret (de_bm PySem.F.plainAttrs_str PySem.F.slot_str_join PySem.F.type_str_join m_join (de_str []) (da_cons (de_comp (own := [("sign", 1)]) rfl S.nd ⟨(quiet_gN 1), (di_seq (de_var 0)), blkOk_by (N := N_swapped) (sc := defScope s_swapped) (own := [("sign", 1)]) (by decide +kernel), fun s H C_ cl fp => (dgc_name 1 S.nd), fun s H C_ cl fp => dts_nil, fun s H C_ cl fp => (de_call (C_other_sign.mono (by decide)) hr takes0 (by rfl) (da_cons (de_var 1) da_nil))⟩) da_nil))))))
/-! back_of -/
abbrev s_back_of : Stmt := topS 23
abbrev N_back_of : List Str := ["cloth", "pick"]
theorem sc_back_of : FnScope N_back_of ["cloth"] (defScope s_back_of) := ⟨rfl, rfl, rfl, by decide +kernel, rfl, by decide +kernel, by decide +kernel⟩
def E1_back_of : Exp :=
  dFn G_swapped (aCons (dRev (dVar 1)) (aNil))
def B_back_of : Sm :=
  sSeq (sExp (dFn G_need_cloth (aCons (dVar 0) (aNil))))
  (sRet (dB tupleD2 (aCons (dComp (iSeq (dVar 0)) (gN 1) (tYesD) (E1_back_of) [1]) (aNil))))
def G_back_of : Fn := runB 1 2 B_back_of
theorem ok_back_of {P : Program} {w : World} {K : PySem.W.Frag} {mg : Str → Option Value} {base : Heap} (fx : Fx K mg) (C_need_cloth : Cal P w K mg base 3 "need_cloth" 1 G_need_cloth) (C_swapped : Cal P w K mg base 2 "swapped" 1 G_swapped) {f : Addr} {fd : FuncData} (F : Fun K "back_of" "back_of" s_back_of f fd) (hm : mg "back_of" = some (.ref f)) (hb : Binds K fd ["cloth"] []) : Cal P w K mg base 4 "back_of" 1 G_back_of :=
  have S := sc_back_of
  cal_mk F hm hb (fn_ok exit_F F S (fun cdv A outer s H E hr tk =>
  (dss_cons (ds_expr (de_call (C_need_cloth.mono (by decide)) hr tk (by rfl) (da_cons (de_var 0) da_nil)))
  (dss_one (ds_ret (de_ty (b_tuple2 rfl) bt_tuple fx.n_tuple (by rfl) (da_cons (de_comp (own := [("pick", 1)]) rfl S.nd ⟨(quiet_gN 1), (di_seq (de_var 0)), blkOk_by (N := N_back_of) (sc := defScope s_back_of) (own := [("pick", 1)]) (by decide +kernel), fun s H C_ cl fp => (dgc_name 1 S.nd), fun s H C_ cl fp => dts_nil, fun s H C_ cl fp => (de_call (C_swapped.mono (by decide)) hr takes0 (by rfl) (da_cons (de_rev (de_var 1)) da_nil))⟩) da_nil)))))))
/-! is_cloth -/
abbrev s_is_cloth : Stmt := topS 19
abbrev N_is_cloth : List Str := ["value"]
theorem sc_is_cloth : FnScope N_is_cloth ["value"] (defScope s_is_cloth) := ⟨rfl, rfl, rfl, by decide +kernel, rfl, by decide +kernel, by decide +kernel⟩
def B_is_cloth : Sm :=
  sRet (dFn G_fits_cloth (aCons (dVar 0) (aNil)))
def G_is_cloth : Fn := runB 1 1 B_is_cloth
theorem ok_is_cloth {P : Program} {w : World} {K : PySem.W.Frag} {mg : Str → Option Value} {base : Heap} (fx : Fx K mg) (C_fits_cloth : Cal P w K mg base 2 "fits_cloth" 1 G_fits_cloth) {f : Addr} {fd : FuncData} (F : Fun K "is_cloth" "is_cloth" s_is_cloth f fd) (hm : mg "is_cloth" = some (.ref f)) (hb : Binds K fd ["value"] []) : Cal P w K mg base 3 "is_cloth" 1 G_is_cloth :=
  have S := sc_is_cloth
  cal_mk F hm hb (fn_ok exit_F F S (fun cdv A outer s H E hr tk =>
  (dss_one (ds_ret (de_call (C_fits_cloth.mono (by decide)) hr tk (by rfl) (da_cons (de_var 0) da_nil))))))
/-! lies_over -/
abbrev s_lies_over : Stmt := topS 16
abbrev N_lies_over : List Str := ["cloth", "one", "other"]
theorem sc_lies_over : FnScope N_lies_over ["cloth", "one", "other"] (defScope s_lies_over) := ⟨rfl, rfl, rfl, by decide +kernel, rfl, by decide +kernel, by decide +kernel⟩
def B_lies_over : Sm :=
  sSeq (sIf (dTst (dOp eqO (dOp ixD (dVar 1) (dC (.int 0))) (dOp ixD (dVar 2) (dC (.int 0))))) (sRet (dC (.bl false))) (sNil))
  (sRet (dIf (dTst (dOp eqO (dOp ixD (dVar 1) (dC (.int 0))) (dC (.str [101, 110, 100])))) (dOp eqO (dOp ixD (dOp ixD (dVar 0) (dOp ixD (dVar 2) (dC (.int 1)))) (dOp ixD (dVar 1) (dC (.int 1)))) (dC (.str [35]))) (dOp eqO (dOp ixD (dOp ixD (dVar 0) (dOp ixD (dVar 1) (dC (.int 1)))) (dOp ixD (dVar 2) (dC (.int 1)))) (dC (.str [46])))))
def G_lies_over : Fn := runB 3 3 B_lies_over
theorem ok_lies_over {P : Program} {w : World} {K : PySem.W.Frag} {mg : Str → Option Value} {base : Heap} (fx : Fx K mg) {f : Addr} {fd : FuncData} (F : Fun K "lies_over" "lies_over" s_lies_over f fd) (hm : mg "lies_over" = some (.ref f)) (hb : Binds K fd ["cloth", "one", "other"] []) : Cal P w K mg base 1 "lies_over" 3 G_lies_over :=
  have S := sc_lies_over
  cal_mk F hm hb (fn_ok exit_F F S (fun cdv A outer s H E hr tk =>
  (dss_cons (ds_if (dt_cmp (o_eq (uu64 hr)) (de_ix i_ix (de_var 1) de_int) (de_ix i_ix (de_var 2) de_int)) (dss_one (ds_ret de_bl)) dss_nil)
  (dss_one (ds_ret (de_if (dt_cmp (o_eq (uu64 hr)) (de_ix i_ix (de_var 1) de_int) (de_str [101, 110, 100])) (de_cmp (o_eq (uu64 hr)) (de_ix i_ix (de_ix i_ix (de_var 0) (de_ix i_ix (de_var 2) de_int)) (de_ix i_ix (de_var 1) de_int)) (de_globS fx.c_UP (by rfl))) (de_cmp (o_eq (uu64 hr)) (de_ix i_ix (de_ix i_ix (de_var 0) (de_ix i_ix (de_var 1) de_int)) (de_ix i_ix (de_var 2) de_int)) (de_globS fx.c_DOWN (by rfl)))))))))
/-! is_whole -/
abbrev s_is_whole : Stmt := topS 8
abbrev N_is_whole : List Str := ["value", "low", "high"]
theorem sc_is_whole : FnScope N_is_whole ["value", "low", "high"] (defScope s_is_whole) := ⟨rfl, rfl, rfl, by decide +kernel, rfl, by decide +kernel, by decide +kernel⟩
def B_is_whole : Sm :=
  sRet (dAnd (dB isiD (aCons (dVar 0) (aCons (dC (.ty "int")) (aNil)))) (dAnd (dNot (dB isiD (aCons (dVar 0) (aCons (dC (.ty "bool")) (aNil))))) (dChain leO leO (dVar 1) (dVar 0) (dVar 2))))
def G_is_whole : Fn := runB 3 3 B_is_whole
theorem ok_is_whole {P : Program} {w : World} {K : PySem.W.Frag} {mg : Str → Option Value} {base : Heap} (fx : Fx K mg) {f : Addr} {fd : FuncData} (F : Fun K "is_whole" "is_whole" s_is_whole f fd) (hm : mg "is_whole" = some (.ref f)) (hb : Binds K fd ["value", "low", "high"] []) : Cal P w K mg base 1 "is_whole" 3 G_is_whole :=
  have S := sc_is_whole
  cal_mk F hm hb (fn_ok exit_F F S (fun cdv A outer s H E hr tk =>
  (dss_one (ds_ret (de_and (de_bf b_isi bt_isinstance fx.n_isinstance (by rfl) (da_cons (de_var 0) (da_cons (de_tyName (by rfl) fx.n_int bt_int) da_nil))) (de_and (de_not (de_bf b_isi bt_isinstance fx.n_isinstance (by rfl) (da_cons (de_var 0) (da_cons (de_tyName (by rfl) fx.n_bool bt_bool) da_nil)))) (de_one (de_chain o_le o_le (de_var 1) (de_var 0) (de_var 2)))))))))
/-! fits_thread -/
abbrev s_fits_thread : Stmt := topS 14
abbrev N_fits_thread : List Str := ["cloth", "value"]
theorem sc_fits_thread : FnScope N_fits_thread ["cloth", "value"] (defScope s_fits_thread) := ⟨rfl, rfl, rfl, by decide +kernel, rfl, by decide +kernel, by decide +kernel⟩
def B_fits_thread : Sm :=
  sSeq (sIf (tOrD (tNotD (dTst (dFn G_is_tuple_of (aCons (dVar 1) (aCons (dC (.int 2)) (aCons (dC (.int 2)) (aNil))))))) (tOrD (tNotD (dTst (dB isiD (aCons (dOp ixD (dVar 1) (dC (.int 0))) (aCons (dC (.ty "str")) (aNil)))))) (dTst (dOp ninO (dOp ixD (dVar 1) (dC (.int 0))) (dTup (aCons (dC (.str [101, 110, 100])) (aCons (dC (.str [112, 105, 99, 107])) (aNil)))))))) (sRet (dC (.bl false))) (sNil))
  (sRet (dFn G_is_whole (aCons (dOp ixD (dVar 1) (dC (.int 1))) (aCons (dC (.int 0)) (aCons (dOp subD (dIf (dTst (dOp eqO (dOp ixD (dVar 1) (dC (.int 0))) (dC (.str [101, 110, 100])))) (dB lenD (aCons (dOp ixD (dVar 0) (dC (.int 0))) (aNil))) (dB lenD (aCons (dVar 0) (aNil)))) (dC (.int 1))) (aNil))))))
def G_fits_thread : Fn := runB 2 2 B_fits_thread
theorem ok_fits_thread {P : Program} {w : World} {K : PySem.W.Frag} {mg : Str → Option Value} {base : Heap} (fx : Fx K mg) (C_is_tuple_of : Cal P w K mg base 1 "is_tuple_of" 3 G_is_tuple_of) (C_is_whole : Cal P w K mg base 1 "is_whole" 3 G_is_whole) {f : Addr} {fd : FuncData} (F : Fun K "fits_thread" "fits_thread" s_fits_thread f fd) (hm : mg "fits_thread" = some (.ref f)) (hb : Binds K fd ["cloth", "value"] []) : Cal P w K mg base 2 "fits_thread" 2 G_fits_thread :=
  have S := sc_fits_thread
  cal_mk F hm hb (fn_ok exit_F F S (fun cdv A outer s H E hr tk =>
  (dss_cons (ds_if (dt_bool (dw_or (dt_not (dt_val (de_call (C_is_tuple_of.mono (by decide)) hr tk (by rfl) (da_cons (de_var 1) (da_cons de_int (da_cons de_int da_nil)))))) (dw_or (dt_not (dt_val (de_bf b_isi bt_isinstance fx.n_isinstance (by rfl) (da_cons (de_ix i_ix (de_var 1) de_int) (da_cons (de_tyName (by rfl) fx.n_str bt_str) da_nil))))) (dw_one_or (dt_cmp (o_nin (uu64 hr)) (de_ix i_ix (de_var 1) de_int) (de_tup (da_cons (de_str [101, 110, 100]) (da_cons (de_str [112, 105, 99, 107]) da_nil)))))))) (dss_one (ds_ret de_bl)) dss_nil)
  (dss_one (ds_ret (de_call (C_is_whole.mono (by decide)) hr tk (by rfl) (da_cons (de_ix i_ix (de_var 1) de_int) (da_cons de_int (da_cons (de_op o_sub (de_if (dt_cmp (o_eq (uu64 hr)) (de_ix i_ix (de_var 1) de_int) (de_str [101, 110, 100])) (de_bf b_len bt_len fx.n_len (by rfl) (da_cons (de_ix i_ix (de_var 0) de_int) da_nil)) (de_bf b_len bt_len fx.n_len (by rfl) (da_cons (de_var 0) da_nil))) de_int) da_nil)))))))))
/-! need_thread -/
abbrev s_need_thread : Stmt := topS 15
abbrev N_need_thread : List Str := ["cloth", "value"]
theorem sc_need_thread : FnScope N_need_thread ["cloth", "value"] (defScope s_need_thread) := ⟨rfl, rfl, rfl, by decide +kernel, rfl, by decide +kernel, by decide +kernel⟩
def B_need_thread : Sm :=
  sIf (tNotD (dTst (dFn G_fits_thread (aCons (dVar 0) (aCons (dVar 1) (aNil)))))) (sNo) (sNil)
def G_need_thread : Fn := runB 2 2 B_need_thread
theorem ok_need_thread {P : Program} {w : World} {K : PySem.W.Frag} {mg : Str → Option Value} {base : Heap} (fx : Fx K mg) (C_fits_thread : Cal P w K mg base 2 "fits_thread" 2 G_fits_thread) {f : Addr} {fd : FuncData} (F : Fun K "need_thread" "need_thread" s_need_thread f fd) (hm : mg "need_thread" = some (.ref f)) (hb : Binds K fd ["cloth", "value"] []) : Cal P w K mg base 3 "need_thread" 2 G_need_thread :=
  have S := sc_need_thread
  cal_mk F hm hb (fn_ok exit_F F S (fun cdv A outer s H E hr tk =>
  (dss_one (ds_if (dt_not (dt_val (de_call (C_fits_thread.mono (by decide)) hr tk (by rfl) (da_cons (de_var 0) (da_cons (de_var 1) da_nil))))) (dss_one ds_never) dss_nil))))
/-! is_over -/
abbrev s_is_over : Stmt := topS 21
abbrev N_is_over : List Str := ["cloth", "one", "other"]
theorem sc_is_over : FnScope N_is_over ["cloth", "one", "other"] (defScope s_is_over) := ⟨rfl, rfl, rfl, by decide +kernel, rfl, by decide +kernel, by decide +kernel⟩
def B_is_over : Sm :=
  sSeq (sExp (dFn G_need_cloth (aCons (dVar 0) (aNil))))
  (sSeq (sExp (dFn G_need_thread (aCons (dVar 0) (aCons (dVar 1) (aNil)))))
  (sSeq (sExp (dFn G_need_thread (aCons (dVar 0) (aCons (dVar 2) (aNil)))))
  (sRet (dFn G_lies_over (aCons (dVar 0) (aCons (dVar 1) (aCons (dVar 2) (aNil))))))))
def G_is_over : Fn := runB 3 3 B_is_over
theorem ok_is_over {P : Program} {w : World} {K : PySem.W.Frag} {mg : Str → Option Value} {base : Heap} (fx : Fx K mg) (C_need_cloth : Cal P w K mg base 3 "need_cloth" 1 G_need_cloth) (C_lies_over : Cal P w K mg base 1 "lies_over" 3 G_lies_over) (C_need_thread : Cal P w K mg base 3 "need_thread" 2 G_need_thread) {f : Addr} {fd : FuncData} (F : Fun K "is_over" "is_over" s_is_over f fd) (hm : mg "is_over" = some (.ref f)) (hb : Binds K fd ["cloth", "one", "other"] []) : Cal P w K mg base 4 "is_over" 3 G_is_over :=
  have S := sc_is_over
  cal_mk F hm hb (fn_ok exit_F F S (fun cdv A outer s H E hr tk =>
  (dss_cons (ds_expr (de_call (C_need_cloth.mono (by decide)) hr tk (by rfl) (da_cons (de_var 0) da_nil)))
  (dss_cons (ds_expr (de_call (C_need_thread.mono (by decide)) hr tk (by rfl) (da_cons (de_var 0) (da_cons (de_var 1) da_nil))))
  (dss_cons (ds_expr (de_call (C_need_thread.mono (by decide)) hr tk (by rfl) (da_cons (de_var 0) (da_cons (de_var 2) da_nil))))
  (dss_one (ds_ret (de_call (C_lies_over.mono (by decide)) hr tk (by rfl) (da_cons (de_var 0) (da_cons (de_var 1) (da_cons (de_var 2) da_nil)))))))))))
/-! threads_in -/
abbrev s_threads_in : Stmt := topS 13
abbrev N_threads_in : List Str := ["cloth", "at"]
theorem sc_threads_in : FnScope N_threads_in ["cloth"] (defScope s_threads_in) := ⟨rfl, rfl, rfl, by decide +kernel, rfl, by decide +kernel, by decide +kernel⟩
def E1_threads_in : Exp :=
  dTup (aCons (dC (.str [101, 110, 100])) (aCons (dVar 1) (aNil)))
def E2_threads_in : Exp :=
  dTup (aCons (dC (.str [112, 105, 99, 107])) (aCons (dVar 1) (aNil)))
def B_threads_in : Sm :=
  sRet (dOp addD (dComp (iA rng1A (aCons (dB lenD (aCons (dOp ixD (dVar 0) (dC (.int 0))) (aNil))) (aNil))) (gN 1) (tYesD) (E1_threads_in) [1]) (dComp (iA rng1A (aCons (dB lenD (aCons (dVar 0) (aNil))) (aNil))) (gN 1) (tYesD) (E2_threads_in) [1]))
def G_threads_in : Fn := runB 1 2 B_threads_in
theorem ok_threads_in {P : Program} {w : World} {K : PySem.W.Frag} {mg : Str → Option Value} {base : Heap} (fx : Fx K mg) {f : Addr} {fd : FuncData} (F : Fun K "threads_in" "threads_in" s_threads_in f fd) (hm : mg "threads_in" = some (.ref f)) (hb : Binds K fd ["cloth"] []) : Cal P w K mg base 1 "threads_in" 1 G_threads_in :=
  have S := sc_threads_in
  cal_mk F hm hb (fn_ok exit_F F S (fun cdv A outer s H E hr tk =>
  (dss_one (ds_ret (de_op o_add (de_comp (own := [("at", 1)]) rfl S.nd ⟨(quiet_gN 1), (di_range1 fx.n_range (by rfl) (da_cons (de_bf b_len bt_len fx.n_len (by rfl) (da_cons (de_ix i_ix (de_var 0) de_int) da_nil)) da_nil)), blkOk_by (N := N_threads_in) (sc := defScope s_threads_in) (own := [("at", 1)]) (by decide +kernel), fun s H C_ cl fp => (dgc_name 1 S.nd), fun s H C_ cl fp => dts_nil, fun s H C_ cl fp => (de_tup (da_cons (de_str [101, 110, 100]) (da_cons (de_var 1) da_nil)))⟩) (de_comp (own := [("at", 1)]) rfl S.nd ⟨(quiet_gN 1), (di_range1 fx.n_range (by rfl) (da_cons (de_bf b_len bt_len fx.n_len (by rfl) (da_cons (de_var 0) da_nil)) da_nil)), blkOk_by (N := N_threads_in) (sc := defScope s_threads_in) (own := [("at", 1)]) (by decide +kernel), fun s H C_ cl fp => (dgc_name 1 S.nd), fun s H C_ cl fp => dts_nil, fun s H C_ cl fp => (de_tup (da_cons (de_str [112, 105, 99, 107]) (da_cons (de_var 1) da_nil)))⟩))))))
/-! threads_of -/
abbrev s_threads_of : Stmt := topS 20
abbrev N_threads_of : List Str := ["cloth"]
theorem sc_threads_of : FnScope N_threads_of ["cloth"] (defScope s_threads_of) := ⟨rfl, rfl, rfl, by decide +kernel, rfl, by decide +kernel, by decide +kernel⟩
def B_threads_of : Sm :=
  sSeq (sExp (dFn G_need_cloth (aCons (dVar 0) (aNil))))
  (sRet (dB tupleD2 (aCons (dFn G_threads_in (aCons (dVar 0) (aNil))) (aNil))))
def G_threads_of : Fn := runB 1 1 B_threads_of
theorem ok_threads_of {P : Program} {w : World} {K : PySem.W.Frag} {mg : Str → Option Value} {base : Heap} (fx : Fx K mg) (C_need_cloth : Cal P w K mg base 3 "need_cloth" 1 G_need_cloth) (C_threads_in : Cal P w K mg base 1 "threads_in" 1 G_threads_in) {f : Addr} {fd : FuncData} (F : Fun K "threads_of" "threads_of" s_threads_of f fd) (hm : mg "threads_of" = some (.ref f)) (hb : Binds K fd ["cloth"] []) : Cal P w K mg base 4 "threads_of" 1 G_threads_of :=
  have S := sc_threads_of
  cal_mk F hm hb (fn_ok exit_F F S (fun cdv A outer s H E hr tk =>
  (dss_cons (ds_expr (de_call (C_need_cloth.mono (by decide)) hr tk (by rfl) (da_cons (de_var 0) da_nil)))
  (dss_one (ds_ret (de_ty (b_tuple2 rfl) bt_tuple fx.n_tuple (by rfl) (da_cons (de_call (C_threads_in.mono (by decide)) hr tk (by rfl) (da_cons (de_var 0) da_nil)) da_nil)))))))
/-! turned_cloth -/
abbrev s_turned_cloth : Stmt := topS 22
abbrev N_turned_cloth : List Str := ["cloth", "end", "pick"]
theorem sc_turned_cloth : FnScope N_turned_cloth ["cloth"] (defScope s_turned_cloth) := ⟨rfl, rfl, rfl, by decide +kernel, rfl, by decide +kernel, by decide +kernel⟩
def E1_turned_cloth : Exp :=
  dOp ixD (dVar 2) (dVar 1)
def E2_turned_cloth : Exp :=
  dFn G_swapped (aCons (dM "str" joinD (dC (.str [])) (aCons (dComp (iSeq (dVar 0)) (gN 2) (tYesD) (E1_turned_cloth) [2]) (aNil))) (aNil))
def B_turned_cloth : Sm :=
  sSeq (sExp (dFn G_need_cloth (aCons (dVar 0) (aNil))))
  (sRet (dB tupleD2 (aCons (dComp (iA rng1A (aCons (dB lenD (aCons (dOp ixD (dVar 0) (dC (.int 0))) (aNil))) (aNil))) (gN 1) (tYesD) (E2_turned_cloth) [1]) (aNil))))
def G_turned_cloth : Fn := runB 1 3 B_turned_cloth
theorem ok_turned_cloth {P : Program} {w : World} {K : PySem.W.Frag} {mg : Str → Option Value} {base : Heap} (fx : Fx K mg) (C_need_cloth : Cal P w K mg base 3 "need_cloth" 1 G_need_cloth) (C_swapped : Cal P w K mg base 2 "swapped" 1 G_swapped) {f : Addr} {fd : FuncData} (F : Fun K "turned_cloth" "turned_cloth" s_turned_cloth f fd) (hm : mg "turned_cloth" = some (.ref f)) (hb : Binds K fd ["cloth"] []) : Cal P w K mg base 4 "turned_cloth" 1 G_turned_cloth :=
  have S := sc_turned_cloth
  cal_mk F hm hb (fn_ok exit_F F S (fun cdv A outer s H E hr tk =>
  (dss_cons (ds_expr (de_call (C_need_cloth.mono (by decide)) hr tk (by rfl) (da_cons (de_var 0) da_nil)))
  (dss_one (ds_ret (de_ty (b_tuple2 rfl) bt_tuple fx.n_tuple (by rfl) (da_cons (de_comp (own := [("end", 1)]) rfl S.nd ⟨(quiet_gN 1), (di_range1 fx.n_range (by rfl) (da_cons (de_bf b_len bt_len fx.n_len (by rfl) (da_cons (de_ix i_ix (de_var 0) de_int) da_nil)) da_nil)), blkOk_by (N := N_turned_cloth) (sc := defScope s_turned_cloth) (own := [("end", 1)]) (by decide +kernel), fun s H C_ cl fp => (dgc_name 1 S.nd), fun s H C_ cl fp => dts_nil, fun s H C_ cl fp => (de_call (C_swapped.mono (by decide)) hr takes0 (by rfl) (da_cons (de_bm PySem.F.plainAttrs_str PySem.F.slot_str_join PySem.F.type_str_join m_join (de_str []) (da_cons (de_comp (own := [("pick", 2)]) rfl S.nd ⟨(quiet_gN 2), (di_seq (de_var 0)), blkOk_by (own := [("pick", 2)]) (by kernel_rfl), fun s H C_ cl fp => (dgc_name 2 S.nd), fun s H C_ cl fp => dts_nil, fun s H C_ cl fp => (de_ix i_ix (de_var 2) (de_var 1))⟩) da_nil)) da_nil))⟩) da_nil)))))))
/-! _law_right -/
abbrev s__law_right : Stmt := topS 33
abbrev N__law_right : List Str := ["cup", "cloth", "picks", "ends", "canvas", "threads", "turn", "pick", "end", "other", "told", "turned", "behind", "due", "at"]
theorem sc__law_right : FnScope N__law_right ["cup", "cloth"] (defScope s__law_right) := ⟨rfl, rfl, rfl, by decide +kernel, rfl, by decide +kernel, by decide +kernel⟩
def E1__law_right : Exp :=
  dTup (aCons (dC (.str [101, 110, 100])) (aCons (dVar 14) (aNil)))
def E2__law_right : Exp :=
  dTup (aCons (dC (.str [112, 105, 99, 107])) (aCons (dVar 14) (aNil)))
def L1__law_right : Sm :=
  sSeq (sPar3 7 8 9 (aCons (dFn G__law_roll (aCons (dVar 0) (aCons (dVar 2) (aNil)))) (aCons (dFn G__law_roll (aCons (dVar 0) (aCons (dVar 3) (aNil)))) (aCons (dFn G__law_some (aCons (dVar 0) (aCons (dVar 5) (aNil)))) (aNil)))))
  (sSeq (sAsg (dLst (aCons (dFn G_is_over (aCons (dVar 1) (aCons (dTup (aCons (dC (.str [101, 110, 100])) (aCons (dVar 8) (aNil)))) (aCons (dTup (aCons (dC (.str [112, 105, 99, 107])) (aCons (dVar 7) (aNil)))) (aNil))))) (aCons (dFn G_is_over (aCons (dVar 1) (aCons (dTup (aCons (dC (.str [112, 105, 99, 107])) (aCons (dVar 7) (aNil)))) (aCons (dTup (aCons (dC (.str [101, 110, 100])) (aCons (dVar 8) (aNil)))) (aNil))))) (aCons (dFn G_is_over (aCons (dVar 1) (aCons (dVar 9) (aCons (dVar 9) (aNil))))) (aNil))))) (gN 10))
  (sSeq (sIf (tNotD (dTst (dFn G__law_like (aCons (dVar 10) (aCons (dLst (aCons (dOp ixD2 (dVar 4) (dTup (aCons (dVar 7) (aCons (dVar 8) (aNil))))) (aCons (dNot (dOp ixD2 (dVar 4) (dTup (aCons (dVar 7) (aCons (dVar 8) (aNil)))))) (aCons (dC (.bl false)) (aNil))))) (aNil)))))) (sRet (dC (.bl false))) (sNil))
  (sIf (tOrD (dTst (dOp notO (dFn G_is_over (aCons (dVar 1) (aCons (dTup (aCons (dC (.str [112, 105, 99, 107])) (aCons (dVar 7) (aNil)))) (aCons (dTup (aCons (dC (.str [112, 105, 99, 107])) (aCons (dFn G__law_roll (aCons (dVar 0) (aCons (dVar 2) (aNil)))) (aNil)))) (aNil))))) (dC (.bl false)))) (dTst (dOp notO (dFn G_is_over (aCons (dVar 1) (aCons (dTup (aCons (dC (.str [101, 110, 100])) (aCons (dVar 8) (aNil)))) (aCons (dTup (aCons (dC (.str [101, 110, 100])) (aCons (dFn G__law_roll (aCons (dVar 0) (aCons (dVar 3) (aNil)))) (aNil)))) (aNil))))) (dC (.bl false))))) (sRet (dC (.bl false))) (sNil))))
def L2__law_right : Sm :=
  sSeq (sAsg (dNot (dOp ixD2 (dVar 4) (dTup (aCons (dVar 7) (aCons (dVar 8) (aNil)))))) (gSubDT (dVar 11) (aCons (dVar 8) (aCons (dVar 7) (aNil)))))
  (sAsg (dNot (dOp ixD2 (dVar 4) (dTup (aCons (dVar 7) (aCons (dVar 8) (aNil)))))) (gSubDT (dVar 12) (aCons (dVar 7) (aCons (dOp subD (dOp subD (dVar 3) (dC (.int 1))) (dVar 8)) (aNil)))))
def B__law_right : Sm :=
  sSeq (sPar3 2 3 4 (aCons (dB lenD (aCons (dVar 1) (aNil))) (aCons (dB lenD (aCons (dOp ixD (dVar 1) (dC (.int 0))) (aNil))) (aCons (dFn G__law_canvas (aCons (dVar 1) (aNil))) (aNil)))))
  (sSeq (sAsg (dB tupleD2 (aCons (dOp addD (dComp (iA rng1A (aCons (dVar 3) (aNil))) (gN 14) (tYesD) (E1__law_right) [14]) (dComp (iA rng1A (aCons (dVar 2) (aNil))) (gN 14) (tYesD) (E2__law_right) [14])) (aNil))) (gN 5))
  (sSeq (sIf (tNotD (dTst (dFn G__law_like (aCons (dFn G_threads_of (aCons (dVar 1) (aNil))) (aCons (dVar 5) (aNil)))))) (sRet (dC (.bl false))) (sNil))
  (sSeq (sFor (iA rng1A (aCons (dC (.int 20)) (aNil))) (gN 6) (L1__law_right))
  (sSeq (sPar 11 12 (aCons (dDnew true) (aCons (dDnew true) (aNil))))
  (sSeq (sForK 4 (gTupD 2 (gsCons (gN 7) (gsCons (gN 8) (gsNil)))) (L2__law_right))
  (sSeq (sAsg (dLst (aCons (dFn G__law_seen (aCons (dVar 11) (aCons (dVar 3) (aCons (dVar 2) (aNil))))) (aCons (dFn G__law_seen (aCons (dVar 12) (aCons (dVar 2) (aCons (dVar 3) (aNil))))) (aNil)))) (gN 13))
  (sSeq (sIf (tNotD (dTst (dFn G__law_like (aCons (dLst (aCons (dFn G_turned_cloth (aCons (dVar 1) (aNil))) (aCons (dFn G_back_of (aCons (dVar 1) (aNil))) (aNil)))) (aCons (dVar 13) (aNil)))))) (sRet (dC (.bl false))) (sNil))
  (sSeq (sIf (tNotD (dTst (dFn G__law_like (aCons (dLst (aCons (dFn G_turned_cloth (aCons (dOp ixD (dVar 13) (dC (.int 0))) (aNil))) (aCons (dFn G_back_of (aCons (dOp ixD (dVar 13) (dC (.int 1))) (aNil))) (aNil)))) (aCons (dLst (aCons (dVar 1) (aCons (dVar 1) (aNil)))) (aNil)))))) (sRet (dC (.bl false))) (sNil))
  (sRet (dAnd (dOp eqO (dFn G_turned_cloth (aCons (dFn G_back_of (aCons (dVar 1) (aNil))) (aNil))) (dRev (dFn G_back_of (aCons (dFn G_turned_cloth (aCons (dRev (dVar 1)) (aNil))) (aNil))))) (dAnd (dFn G_is_cloth (aCons (dOp ixD (dVar 13) (dC (.int 0))) (aNil))) (dFn G_is_cloth (aCons (dOp ixD (dVar 13) (dC (.int 1))) (aNil))))))))))))))
def G__law_right : Fn := runB 2 15 B__law_right
theorem ok__law_right {P : Program} {w : World} {K : PySem.W.Frag} {mg : Str → Option Value} {base : Heap} (fx : Fx K mg) (C__law_roll : Cal P w K mg base 1 "_law_roll" 2 G__law_roll) (C__law_some : Cal P w K mg base 2 "_law_some" 2 G__law_some) (C__law_like : Cal P w K mg base 10 "_law_like" 2 G__law_like) (C__law_canvas : Cal P w K mg base 1 "_law_canvas" 1 G__law_canvas) (C__law_seen : Cal P w K mg base 1 "_law_seen" 3 G__law_seen) (C_back_of : Cal P w K mg base 4 "back_of" 1 G_back_of) (C_is_cloth : Cal P w K mg base 3 "is_cloth" 1 G_is_cloth) (C_is_over : Cal P w K mg base 4 "is_over" 3 G_is_over) (C_threads_of : Cal P w K mg base 4 "threads_of" 1 G_threads_of) (C_turned_cloth : Cal P w K mg base 4 "turned_cloth" 1 G_turned_cloth) {f : Addr} {fd : FuncData} (F : Fun K "_law_right" "_law_right" s__law_right f fd) (hm : mg "_law_right" = some (.ref f)) (hb : Binds K fd ["cup", "cloth"] []) : Cal P w K mg base 11 "_law_right" 2 G__law_right :=
  have S := sc__law_right
  cal_mk F hm hb (fn_ok exit_F F S (fun cdv A outer s H E hr tk =>
  (dss_cons (ds_par3 2 3 4 rfl S.nd (da_cons (de_bf b_len bt_len fx.n_len (by rfl) (da_cons (de_var 1) da_nil)) (da_cons (de_bf b_len bt_len fx.n_len (by rfl) (da_cons (de_ix i_ix (de_var 1) de_int) da_nil)) (da_cons (de_call (C__law_canvas.mono (by decide)) hr tk (by rfl) (da_cons (de_var 1) da_nil)) da_nil))))
  (dss_cons (ds_set 5 S.nd (de_ty (b_tuple2 rfl) bt_tuple fx.n_tuple (by rfl) (da_cons (de_op o_add (de_comp (own := [("at", 14)]) rfl S.nd ⟨(quiet_gN 14), (di_range1 fx.n_range (by rfl) (da_cons (de_var 3) da_nil)), blkOk_by (N := N__law_right) (sc := defScope s__law_right) (own := [("at", 14)]) (by decide +kernel), fun s H C_ cl fp => (dgc_name 14 S.nd), fun s H C_ cl fp => dts_nil, fun s H C_ cl fp => (de_tup (da_cons (de_str [101, 110, 100]) (da_cons (de_var 14) da_nil)))⟩) (de_comp (own := [("at", 14)]) rfl S.nd ⟨(quiet_gN 14), (di_range1 fx.n_range (by rfl) (da_cons (de_var 2) da_nil)), blkOk_by (N := N__law_right) (sc := defScope s__law_right) (own := [("at", 14)]) (by decide +kernel), fun s H C_ cl fp => (dgc_name 14 S.nd), fun s H C_ cl fp => dts_nil, fun s H C_ cl fp => (de_tup (da_cons (de_str [112, 105, 99, 107]) (da_cons (de_var 14) da_nil)))⟩)) da_nil)))
  (dss_cons (ds_if (dt_not (dt_val (de_call (C__law_like.mono (by decide)) hr tk (by rfl) (da_cons (de_call (C_threads_of.mono (by decide)) hr tk (by rfl) (da_cons (de_var 1) da_nil)) (da_cons (de_var 5) da_nil))))) (dss_one (ds_ret de_bl)) dss_nil)
  (dss_cons (ds_for (passes_of rfl) rfl (di_range1 fx.n_range (by rfl) (da_cons de_int da_nil)) (dg_name 6 S.nd) (dss_cons (ds_par3 7 8 9 rfl S.nd (da_cons (de_call (C__law_roll.mono (by decide)) hr tk (by rfl) (da_cons (de_var 0) (da_cons (de_var 2) da_nil))) (da_cons (de_call (C__law_roll.mono (by decide)) hr tk (by rfl) (da_cons (de_var 0) (da_cons (de_var 3) da_nil))) (da_cons (de_call (C__law_some.mono (by decide)) hr tk (by rfl) (da_cons (de_var 0) (da_cons (de_var 5) da_nil))) da_nil))))
  (dss_cons (ds_set 10 S.nd (de_lst (da_cons (de_call (C_is_over.mono (by decide)) hr tk (by rfl) (da_cons (de_var 1) (da_cons (de_tup (da_cons (de_str [101, 110, 100]) (da_cons (de_var 8) da_nil))) (da_cons (de_tup (da_cons (de_str [112, 105, 99, 107]) (da_cons (de_var 7) da_nil))) da_nil)))) (da_cons (de_call (C_is_over.mono (by decide)) hr tk (by rfl) (da_cons (de_var 1) (da_cons (de_tup (da_cons (de_str [112, 105, 99, 107]) (da_cons (de_var 7) da_nil))) (da_cons (de_tup (da_cons (de_str [101, 110, 100]) (da_cons (de_var 8) da_nil))) da_nil)))) (da_cons (de_call (C_is_over.mono (by decide)) hr tk (by rfl) (da_cons (de_var 1) (da_cons (de_var 9) (da_cons (de_var 9) da_nil)))) da_nil)))))
  (dss_cons (ds_if (dt_not (dt_val (de_call (C__law_like.mono (by decide)) hr tk (by rfl) (da_cons (de_var 10) (da_cons (de_lst (da_cons (de_ix (i_ix2 (uu1 hr)) (de_var 4) (de_tup (da_cons (de_var 7) (da_cons (de_var 8) da_nil)))) (da_cons (de_not (de_ix (i_ix2 (uu1 hr)) (de_var 4) (de_tup (da_cons (de_var 7) (da_cons (de_var 8) da_nil))))) (da_cons de_bl da_nil)))) da_nil))))) (dss_one (ds_ret de_bl)) dss_nil)
  (dss_one (ds_if (dt_bool (dw_or (dt_cmp o_not (de_call (C_is_over.mono (by decide)) hr tk (by rfl) (da_cons (de_var 1) (da_cons (de_tup (da_cons (de_str [112, 105, 99, 107]) (da_cons (de_var 7) da_nil))) (da_cons (de_tup (da_cons (de_str [112, 105, 99, 107]) (da_cons (de_call (C__law_roll.mono (by decide)) hr tk (by rfl) (da_cons (de_var 0) (da_cons (de_var 2) da_nil))) da_nil))) da_nil)))) de_bl) (dw_one_or (dt_cmp o_not (de_call (C_is_over.mono (by decide)) hr tk (by rfl) (da_cons (de_var 1) (da_cons (de_tup (da_cons (de_str [101, 110, 100]) (da_cons (de_var 8) da_nil))) (da_cons (de_tup (da_cons (de_str [101, 110, 100]) (da_cons (de_call (C__law_roll.mono (by decide)) hr tk (by rfl) (da_cons (de_var 0) (da_cons (de_var 3) da_nil))) da_nil))) da_nil)))) de_bl)))) (dss_one (ds_ret de_bl)) dss_nil))))))
  (dss_cons (ds_par 11 12 rfl S.nd (da_cons de_dnewT (da_cons de_dnewT da_nil)))
  (dss_cons (ds_forK 4 (passes_of rfl) rfl (dg_tup rfl (dgs_cons (dg_name 7 S.nd) (dgs_cons (dg_name 8 S.nd) dgs_nil))) (dss_cons (ds_asg (de_not (de_ix (i_ix2 (uu1 hr)) (de_var 4) (de_tup (da_cons (de_var 7) (da_cons (de_var 8) da_nil))))) (dg_subT (uu1 hr) (de_var 11) (da_cons (de_var 8) (da_cons (de_var 7) da_nil))))
  (dss_one (ds_asg (de_not (de_ix (i_ix2 (uu1 hr)) (de_var 4) (de_tup (da_cons (de_var 7) (da_cons (de_var 8) da_nil))))) (dg_subT (uu1 hr) (de_var 12) (da_cons (de_var 7) (da_cons (de_op o_sub (de_op o_sub (de_var 3) de_int) (de_var 8)) da_nil)))))))
  (dss_cons (ds_set 13 S.nd (de_lst (da_cons (de_call (C__law_seen.mono (by decide)) hr tk (by rfl) (da_cons (de_var 11) (da_cons (de_var 3) (da_cons (de_var 2) da_nil)))) (da_cons (de_call (C__law_seen.mono (by decide)) hr tk (by rfl) (da_cons (de_var 12) (da_cons (de_var 2) (da_cons (de_var 3) da_nil)))) da_nil))))
  (dss_cons (ds_if (dt_not (dt_val (de_call (C__law_like.mono (by decide)) hr tk (by rfl) (da_cons (de_lst (da_cons (de_call (C_turned_cloth.mono (by decide)) hr tk (by rfl) (da_cons (de_var 1) da_nil)) (da_cons (de_call (C_back_of.mono (by decide)) hr tk (by rfl) (da_cons (de_var 1) da_nil)) da_nil))) (da_cons (de_var 13) da_nil))))) (dss_one (ds_ret de_bl)) dss_nil)
  (dss_cons (ds_if (dt_not (dt_val (de_call (C__law_like.mono (by decide)) hr tk (by rfl) (da_cons (de_lst (da_cons (de_call (C_turned_cloth.mono (by decide)) hr tk (by rfl) (da_cons (de_ix i_ix (de_var 13) de_int) da_nil)) (da_cons (de_call (C_back_of.mono (by decide)) hr tk (by rfl) (da_cons (de_ix i_ix (de_var 13) de_int) da_nil)) da_nil))) (da_cons (de_lst (da_cons (de_var 1) (da_cons (de_var 1) da_nil))) da_nil))))) (dss_one (ds_ret de_bl)) dss_nil)
  (dss_one (ds_ret (de_and (de_cmp (o_eq (uu64 hr)) (de_call (C_turned_cloth.mono (by decide)) hr tk (by rfl) (da_cons (de_call (C_back_of.mono (by decide)) hr tk (by rfl) (da_cons (de_var 1) da_nil)) da_nil)) (de_rev (de_call (C_back_of.mono (by decide)) hr tk (by rfl) (da_cons (de_call (C_turned_cloth.mono (by decide)) hr tk (by rfl) (da_cons (de_rev (de_var 1)) da_nil)) da_nil)))) (de_and (de_call (C_is_cloth.mono (by decide)) hr tk (by rfl) (da_cons (de_ix i_ix (de_var 13) de_int) da_nil)) (de_one (de_call (C_is_cloth.mono (by decide)) hr tk (by rfl) (da_cons (de_ix i_ix (de_var 13) de_int) da_nil))))))))))))))))))
/-! law -/
abbrev s_law : Stmt := topS 34
abbrev N_law : List Str := ["script", "cup", "turn", "great", "told", "due", "pick", "end"]
theorem sc_law : FnScope N_law ["script"] (defScope s_law) := ⟨rfl, rfl, rfl, by decide +kernel, rfl, by decide +kernel, by decide +kernel⟩
def L1_law : Sm :=
  sIf (tNotD (dTst (dFn G__law_right (aCons (dVar 1) (aCons (dFn G__law_cloth (aCons (dVar 1) (aCons (dFn G__law_some (aCons (dVar 1) (aCons (dLst (aCons (dC (.int 1)) (aCons (dC (.int 2)) (aCons (dC (.int 5)) (aCons (dC (.int 12)) (aNil)))))) (aNil)))) (aCons (dFn G__law_some (aCons (dVar 1) (aCons (dLst (aCons (dC (.int 1)) (aCons (dC (.int 3)) (aCons (dC (.int 12)) (aNil))))) (aNil)))) (aNil))))) (aNil)))))) (sRet (dC (.bl false))) (sNil)
def E1_law : Exp :=
  dFn G__law_some (aCons (dVar 1) (aCons (dLst (aCons (dC (.str [35])) (aCons (dC (.str [46])) (aNil)))) (aNil)))
def E2_law : Exp :=
  dM "str" joinD (dC (.str [])) (aCons (dComp (iA rng1A (aCons (dC (.int 12)) (aNil))) (gN 7) (tYesD) (E1_law) [7]) (aNil))
def B_law : Sm :=
  sSeq (sAsg (dFn G__law_cup (aCons (dVar 0) (aNil))) (gN 1))
  (sSeq (sFor (iA rng1A (aCons (dC (.int 6)) (aNil))) (gN 2) (L1_law))
  (sSeq (sAsg (dB tupleD2 (aCons (dComp (iA rng1A (aCons (dC (.int 12)) (aNil))) (gN 6) (tYesD) (E2_law) [6]) (aNil))) (gN 3))
  (sSeq (sIf (tOrD (tNotD (dTst (dFn G__law_right (aCons (dVar 1) (aCons (dVar 3) (aNil)))))) (tOrD (tNotD (dTst (dFn G__law_right (aCons (dVar 1) (aCons (dTup (aCons (dOp mulD2 (dC (.str [35])) (dC (.int 12))) (aNil))) (aNil)))))) (tNotD (dTst (dFn G__law_right (aCons (dVar 1) (aCons (dOp mulD2 (dTup (aCons (dC (.str [46])) (aNil))) (dC (.int 12))) (aNil)))))))) (sRet (dC (.bl false))) (sNil))
  (sSeq (sAsg (dLst (aCons (dFn G_threads_of (aCons (dTup (aCons (dC (.str [35, 46])) (aNil))) (aNil))) (aCons (dFn G_is_over (aCons (dTup (aCons (dC (.str [35, 46])) (aCons (dC (.str [46, 35])) (aNil)))) (aCons (dTup (aCons (dC (.str [101, 110, 100])) (aCons (dC (.int 0)) (aNil)))) (aCons (dTup (aCons (dC (.str [112, 105, 99, 107])) (aCons (dC (.int 0)) (aNil)))) (aNil))))) (aCons (dFn G_is_over (aCons (dTup (aCons (dC (.str [35, 46])) (aCons (dC (.str [46, 35])) (aNil)))) (aCons (dTup (aCons (dC (.str [112, 105, 99, 107])) (aCons (dC (.int 0)) (aNil)))) (aCons (dTup (aCons (dC (.str [112, 105, 99, 107])) (aCons (dC (.int 1)) (aNil)))) (aNil))))) (aCons (dFn G_is_over (aCons (dTup (aCons (dC (.str [35, 46])) (aCons (dC (.str [46, 35])) (aNil)))) (aCons (dTup (aCons (dC (.str [112, 105, 99, 107])) (aCons (dC (.int 1)) (aNil)))) (aCons (dTup (aCons (dC (.str [101, 110, 100])) (aCons (dC (.int 0)) (aNil)))) (aNil))))) (aNil)))))) (gN 4))
  (sSeq (sAsg (dOp addD (dVar 4) (dLst (aCons (dFn G_turned_cloth (aCons (dTup (aCons (dC (.str [35, 35, 46])) (aCons (dC (.str [46, 46, 46])) (aNil)))) (aNil))) (aCons (dFn G_back_of (aCons (dTup (aCons (dC (.str [35, 35, 46])) (aCons (dC (.str [46, 46, 46])) (aNil)))) (aNil))) (aCons (dFn G_turned_cloth (aCons (dTup (aCons (dC (.str [35])) (aNil))) (aNil))) (aCons (dFn G_back_of (aCons (dTup (aCons (dC (.str [46])) (aNil))) (aNil))) (aCons (dFn G_back_of (aCons (dTup (aCons (dC (.str [35, 46, 46])) (aCons (dC (.str [35, 35, 46])) (aNil)))) (aNil))) (aNil)))))))) (gN 4))
  (sSeq (sAsg (dLst (aCons (dTup (aCons (dTup (aCons (dC (.str [101, 110, 100])) (aCons (dC (.int 0)) (aNil)))) (aCons (dTup (aCons (dC (.str [101, 110, 100])) (aCons (dC (.int 1)) (aNil)))) (aCons (dTup (aCons (dC (.str [112, 105, 99, 107])) (aCons (dC (.int 0)) (aNil)))) (aNil))))) (aCons (dC (.bl true)) (aCons (dC (.bl false)) (aCons (dC (.bl true)) (aCons (dTup (aCons (dC (.str [46, 35])) (aCons (dC (.str [46, 35])) (aCons (dC (.str [35, 35])) (aNil))))) (aCons (dTup (aCons (dC (.str [35, 46, 46])) (aCons (dC (.str [35, 35, 35])) (aNil)))) (aCons (dTup (aCons (dC (.str [46])) (aNil))) (aCons (dTup (aCons (dC (.str [35])) (aNil))) (aCons (dTup (aCons (dC (.str [35, 35, 46])) (aCons (dC (.str [35, 46, 46])) (aNil)))) (aNil))))))))))) (gN 5))
  (sRet (dFn G__law_like (aCons (dVar 4) (aCons (dVar 5) (aNil)))))))))))
def G_law : Fn := runB 1 8 B_law
theorem ok_law {P : Program} {w : World} {K : PySem.W.Frag} {mg : Str → Option Value} {base : Heap} (fx : Fx K mg) (C__law_some : Cal P w K mg base 2 "_law_some" 2 G__law_some) (C__law_cloth : Cal P w K mg base 3 "_law_cloth" 3 G__law_cloth) (C__law_cup : Cal P w K mg base 1 "_law_cup" 1 G__law_cup) (C__law_like : Cal P w K mg base 10 "_law_like" 2 G__law_like) (C_back_of : Cal P w K mg base 4 "back_of" 1 G_back_of) (C_is_over : Cal P w K mg base 4 "is_over" 3 G_is_over) (C_threads_of : Cal P w K mg base 4 "threads_of" 1 G_threads_of) (C_turned_cloth : Cal P w K mg base 4 "turned_cloth" 1 G_turned_cloth) (C__law_right : Cal P w K mg base 11 "_law_right" 2 G__law_right) {f : Addr} {fd : FuncData} (F : Fun K "law" "law" s_law f fd) : FnOk P w K mg base (L2.CX P w) 12 f fd ["script"] (spG K mg 1 G_law) :=
  have S := sc_law
  fn_ok exit_F F S (fun cdv A outer s H E hr tk =>
  (dss_cons (ds_set 1 S.nd (de_call (C__law_cup.mono (by decide)) hr tk (by rfl) (da_cons (de_var 0) da_nil)))
  (dss_cons (ds_for (passes_of rfl) rfl (di_range1 fx.n_range (by rfl) (da_cons de_int da_nil)) (dg_name 2 S.nd) (dss_one (ds_if (dt_not (dt_val (de_call (C__law_right.mono (by decide)) hr tk (by rfl) (da_cons (de_var 1) (da_cons (de_call (C__law_cloth.mono (by decide)) hr tk (by rfl) (da_cons (de_var 1) (da_cons (de_call (C__law_some.mono (by decide)) hr tk (by rfl) (da_cons (de_var 1) (da_cons (de_lst (da_cons de_int (da_cons de_int (da_cons de_int (da_cons de_int da_nil))))) da_nil))) (da_cons (de_call (C__law_some.mono (by decide)) hr tk (by rfl) (da_cons (de_var 1) (da_cons (de_lst (da_cons de_int (da_cons de_int (da_cons de_int da_nil)))) da_nil))) da_nil)))) da_nil))))) (dss_one (ds_ret de_bl)) dss_nil)))
  (dss_cons (ds_set 3 S.nd (de_ty (b_tuple2 rfl) bt_tuple fx.n_tuple (by rfl) (da_cons (de_comp (own := [("pick", 6)]) rfl S.nd ⟨(quiet_gN 6), (di_range1 fx.n_range (by rfl) (da_cons de_int da_nil)), blkOk_by (N := N_law) (sc := defScope s_law) (own := [("pick", 6)]) (by decide +kernel), fun s H C_ cl fp => (dgc_name 6 S.nd), fun s H C_ cl fp => dts_nil, fun s H C_ cl fp => (de_bm PySem.F.plainAttrs_str PySem.F.slot_str_join PySem.F.type_str_join m_join (de_str []) (da_cons (de_comp (own := [("end", 7)]) rfl S.nd ⟨(quiet_gN 7), (di_range1 fx.n_range (by rfl) (da_cons de_int da_nil)), blkOk_by (own := [("end", 7)]) (by kernel_rfl), fun s H C_ cl fp => (dgc_name 7 S.nd), fun s H C_ cl fp => dts_nil, fun s H C_ cl fp => (de_call (C__law_some.mono (by decide)) hr takes0 (by rfl) (da_cons (de_var 1) (da_cons (de_lst (da_cons (de_str [35]) (da_cons (de_str [46]) da_nil))) da_nil)))⟩) da_nil))⟩) da_nil)))
  (dss_cons (ds_if (dt_bool (dw_or (dt_not (dt_val (de_call (C__law_right.mono (by decide)) hr tk (by rfl) (da_cons (de_var 1) (da_cons (de_var 3) da_nil))))) (dw_or (dt_not (dt_val (de_call (C__law_right.mono (by decide)) hr tk (by rfl) (da_cons (de_var 1) (da_cons (de_tup (da_cons (de_op o_mul2 (de_str [35]) de_int) da_nil)) da_nil))))) (dw_one_or (dt_not (dt_val (de_call (C__law_right.mono (by decide)) hr tk (by rfl) (da_cons (de_var 1) (da_cons (de_op o_mul2 (de_tup (da_cons (de_str [46]) da_nil)) de_int) da_nil))))))))) (dss_one (ds_ret de_bl)) dss_nil)
  (dss_cons (ds_set 4 S.nd (de_lst (da_cons (de_call (C_threads_of.mono (by decide)) hr tk (by rfl) (da_cons (de_tup (da_cons (de_str [35, 46]) da_nil)) da_nil)) (da_cons (de_call (C_is_over.mono (by decide)) hr tk (by rfl) (da_cons (de_tup (da_cons (de_str [35, 46]) (da_cons (de_str [46, 35]) da_nil))) (da_cons (de_tup (da_cons (de_str [101, 110, 100]) (da_cons de_int da_nil))) (da_cons (de_tup (da_cons (de_str [112, 105, 99, 107]) (da_cons de_int da_nil))) da_nil)))) (da_cons (de_call (C_is_over.mono (by decide)) hr tk (by rfl) (da_cons (de_tup (da_cons (de_str [35, 46]) (da_cons (de_str [46, 35]) da_nil))) (da_cons (de_tup (da_cons (de_str [112, 105, 99, 107]) (da_cons de_int da_nil))) (da_cons (de_tup (da_cons (de_str [112, 105, 99, 107]) (da_cons de_int da_nil))) da_nil)))) (da_cons (de_call (C_is_over.mono (by decide)) hr tk (by rfl) (da_cons (de_tup (da_cons (de_str [35, 46]) (da_cons (de_str [46, 35]) da_nil))) (da_cons (de_tup (da_cons (de_str [112, 105, 99, 107]) (da_cons de_int da_nil))) (da_cons (de_tup (da_cons (de_str [101, 110, 100]) (da_cons de_int da_nil))) da_nil)))) da_nil))))))
  (dss_cons (ds_set 4 S.nd (de_op o_add (de_var 4) (de_lst (da_cons (de_call (C_turned_cloth.mono (by decide)) hr tk (by rfl) (da_cons (de_tup (da_cons (de_str [35, 35, 46]) (da_cons (de_str [46, 46, 46]) da_nil))) da_nil)) (da_cons (de_call (C_back_of.mono (by decide)) hr tk (by rfl) (da_cons (de_tup (da_cons (de_str [35, 35, 46]) (da_cons (de_str [46, 46, 46]) da_nil))) da_nil)) (da_cons (de_call (C_turned_cloth.mono (by decide)) hr tk (by rfl) (da_cons (de_tup (da_cons (de_str [35]) da_nil)) da_nil)) (da_cons (de_call (C_back_of.mono (by decide)) hr tk (by rfl) (da_cons (de_tup (da_cons (de_str [46]) da_nil)) da_nil)) (da_cons (de_call (C_back_of.mono (by decide)) hr tk (by rfl) (da_cons (de_tup (da_cons (de_str [35, 46, 46]) (da_cons (de_str [35, 35, 46]) da_nil))) da_nil)) da_nil))))))))
  (dss_cons (ds_set 5 S.nd (de_lst (da_cons (de_tup (da_cons (de_tup (da_cons (de_str [101, 110, 100]) (da_cons de_int da_nil))) (da_cons (de_tup (da_cons (de_str [101, 110, 100]) (da_cons de_int da_nil))) (da_cons (de_tup (da_cons (de_str [112, 105, 99, 107]) (da_cons de_int da_nil))) da_nil)))) (da_cons de_bl (da_cons de_bl (da_cons de_bl (da_cons (de_tup (da_cons (de_str [46, 35]) (da_cons (de_str [46, 35]) (da_cons (de_str [35, 35]) da_nil)))) (da_cons (de_tup (da_cons (de_str [35, 46, 46]) (da_cons (de_str [35, 35, 35]) da_nil))) (da_cons (de_tup (da_cons (de_str [46]) da_nil)) (da_cons (de_tup (da_cons (de_str [35]) da_nil)) (da_cons (de_tup (da_cons (de_str [35, 35, 46]) (da_cons (de_str [35, 46, 46]) da_nil))) da_nil)))))))))))
  (dss_one (ds_ret (de_call (C__law_like.mono (by decide)) hr tk (by rfl) (da_cons (de_var 4) (da_cons (de_var 5) da_nil)))))))))))))
/-! ### all of it -/
theorem all_mk {l : PySem.W.OpenLaw} {w : World} {K : PySem.W.Frag} {h : Heap} {mg : Str → Option Value} {fa : Addr} {f0 f1 f2 f3 f4 f5 f6 f7 f8 f9 f10 f11 f12 f13 f14 f15 f16 f17 f18 f19 f20 f21 f22 f23 f24 f25 : Addr} {od0 an0 od1 an1 od2 an2 od3 an3 od4 an4 od5 an5 od6 an6 od7 an7 od8 an8 od9 an9 od10 an10 od11 an11 od12 an12 od13 an13 od14 an14 od15 an15 od16 an16 od17 an17 od18 an18 od19 an19 od20 an20 od21 an21 od22 an22 od23 an23 od24 an24 od25 an25 : Option Addr} {sl0 sl1 sl2 sl3 sl4 sl5 sl6 sl7 sl8 sl9 sl10 sl11 sl12 sl13 sl14 sl15 sl16 sl17 sl18 sl19 sl20 sl21 sl22 sl23 sl24 sl25 : Array (Option Value)} {oc0 kV0 dc0 pm0 cd0 ct0 oc1 kV1 dc1 pm1 cd1 ct1 oc2 kV2 dc2 pm2 cd2 ct2 oc3 kV3 dc3 pm3 cd3 ct3 oc4 kV4 dc4 pm4 cd4 ct4 oc5 kV5 dc5 pm5 cd5 ct5 oc6 kV6 dc6 pm6 cd6 ct6 oc7 kV7 dc7 pm7 cd7 ct7 oc8 kV8 dc8 pm8 cd8 ct8 oc9 kV9 dc9 pm9 cd9 ct9 oc10 kV10 dc10 pm10 cd10 ct10 oc11 kV11 dc11 pm11 cd11 ct11 oc12 kV12 dc12 pm12 cd12 ct12 oc13 kV13 dc13 pm13 cd13 ct13 oc14 kV14 dc14 pm14 cd14 ct14 oc15 kV15 dc15 pm15 cd15 ct15 oc16 kV16 dc16 pm16 cd16 ct16 oc17 kV17 dc17 pm17 cd17 ct17 oc18 kV18 dc18 pm18 cd18 ct18 oc19 kV19 dc19 pm19 cd19 ct19 oc20 kV20 dc20 pm20 cd20 ct20 oc21 kV21 dc21 pm21 cd21 ct21 oc22 kV22 dc22 pm22 cd22 ct22 oc23 kV23 dc23 pm23 cd23 ct23 oc24 kV24 dc24 pm24 cd24 ct24 oc25 kV25 dc25 pm25 cd25 ct25 : Value} {it0} {it13} {it14} {zs13} {zs14}
    (law : ∀ ns : List Int, ns.length ≤ 63 → ∃ s', G_law [.fzl (ns.map D.int)] [] = .ok (.bl true) s') (X : K.In h) (G : h.Ns mainGlobals mg) (hfa : mg "law" = some (.ref fa))
    (a0 : PySem.W.nsIn K mainGlobals "_law_roll" = some (some (.ref f0))) (l0 : K.lookup f0 = some ⟨oc0, od0, .func (PySem.W.fnOf "_law_roll" "_law_roll" (defArgs s__law_roll) (defBody s__law_roll) (defScope s__law_roll) .none kV0 dc0 pm0 an0 cd0 ct0), sl0⟩) (c0 : PySem.W.codeIn K cd0 "_law_roll" = true) (k0 : PySem.W.keepIn K (.ref f0) = true)
    (a1 : PySem.W.nsIn K mainGlobals "_law_some" = some (some (.ref f1))) (l1 : K.lookup f1 = some ⟨oc1, od1, .func (PySem.W.fnOf "_law_some" "_law_some" (defArgs s__law_some) (defBody s__law_some) (defScope s__law_some) .none kV1 dc1 pm1 an1 cd1 ct1), sl1⟩) (c1 : PySem.W.codeIn K cd1 "_law_some" = true) (k1 : PySem.W.keepIn K (.ref f1) = true)
    (a2 : PySem.W.nsIn K mainGlobals "_law_cloth" = some (some (.ref f2))) (l2 : K.lookup f2 = some ⟨oc2, od2, .func (PySem.W.fnOf "_law_cloth" "_law_cloth" (defArgs s__law_cloth) (defBody s__law_cloth) (defScope s__law_cloth) .none kV2 dc2 pm2 an2 cd2 ct2), sl2⟩) (c2 : PySem.W.codeIn K cd2 "_law_cloth" = true) (k2 : PySem.W.keepIn K (.ref f2) = true)
    (a3 : PySem.W.nsIn K mainGlobals "_law_cup" = some (some (.ref f3))) (l3 : K.lookup f3 = some ⟨oc3, od3, .func (PySem.W.fnOf "_law_cup" "_law_cup" (defArgs s__law_cup) (defBody s__law_cup) (defScope s__law_cup) .none kV3 dc3 pm3 an3 cd3 ct3), sl3⟩) (c3 : PySem.W.codeIn K cd3 "_law_cup" = true) (k3 : PySem.W.keepIn K (.ref f3) = true)
    (a4 : PySem.W.nsIn K mainGlobals "_law_sort" = some (some (.ref f4))) (l4 : K.lookup f4 = some ⟨oc4, od4, .func (PySem.W.fnOf "_law_sort" "_law_sort" (defArgs s__law_sort) (defBody s__law_sort) (defScope s__law_sort) .none kV4 dc4 pm4 an4 cd4 ct4), sl4⟩) (c4 : PySem.W.codeIn K cd4 "_law_sort" = true) (k4 : PySem.W.keepIn K (.ref f4) = true)
    (a5 : PySem.W.nsIn K mainGlobals "_law_like" = some (some (.ref f5))) (l5 : K.lookup f5 = some ⟨oc5, od5, .func (PySem.W.fnOf "_law_like" "_law_like" (defArgs s__law_like) (defBody s__law_like) (defScope s__law_like) .none kV5 dc5 pm5 an5 cd5 ct5), sl5⟩) (c5 : PySem.W.codeIn K cd5 "_law_like" = true) (k5 : PySem.W.keepIn K (.ref f5) = true)
    (a6 : PySem.W.nsIn K mainGlobals "_law_canvas" = some (some (.ref f6))) (l6 : K.lookup f6 = some ⟨oc6, od6, .func (PySem.W.fnOf "_law_canvas" "_law_canvas" (defArgs s__law_canvas) (defBody s__law_canvas) (defScope s__law_canvas) .none kV6 dc6 pm6 an6 cd6 ct6), sl6⟩) (c6 : PySem.W.codeIn K cd6 "_law_canvas" = true) (k6 : PySem.W.keepIn K (.ref f6) = true)
    (a7 : PySem.W.nsIn K mainGlobals "_law_seen" = some (some (.ref f7))) (l7 : K.lookup f7 = some ⟨oc7, od7, .func (PySem.W.fnOf "_law_seen" "_law_seen" (defArgs s__law_seen) (defBody s__law_seen) (defScope s__law_seen) .none kV7 dc7 pm7 an7 cd7 ct7), sl7⟩) (c7 : PySem.W.codeIn K cd7 "_law_seen" = true) (k7 : PySem.W.keepIn K (.ref f7) = true)
    (a8 : PySem.W.nsIn K mainGlobals "is_tuple_of" = some (some (.ref f8))) (l8 : K.lookup f8 = some ⟨oc8, od8, .func (PySem.W.fnOf "is_tuple_of" "is_tuple_of" (defArgs s_is_tuple_of) (defBody s_is_tuple_of) (defScope s_is_tuple_of) .none kV8 dc8 pm8 an8 cd8 ct8), sl8⟩) (c8 : PySem.W.codeIn K cd8 "is_tuple_of" = true) (k8 : PySem.W.keepIn K (.ref f8) = true)
    (a9 : PySem.W.nsIn K mainGlobals "is_word" = some (some (.ref f9))) (l9 : K.lookup f9 = some ⟨oc9, od9, .func (PySem.W.fnOf "is_word" "is_word" (defArgs s_is_word) (defBody s_is_word) (defScope s_is_word) .none kV9 dc9 pm9 an9 cd9 ct9), sl9⟩) (c9 : PySem.W.codeIn K cd9 "is_word" = true) (k9 : PySem.W.keepIn K (.ref f9) = true)
    (a10 : PySem.W.nsIn K mainGlobals "fits_cloth" = some (some (.ref f10))) (l10 : K.lookup f10 = some ⟨oc10, od10, .func (PySem.W.fnOf "fits_cloth" "fits_cloth" (defArgs s_fits_cloth) (defBody s_fits_cloth) (defScope s_fits_cloth) .none kV10 dc10 pm10 an10 cd10 ct10), sl10⟩) (c10 : PySem.W.codeIn K cd10 "fits_cloth" = true) (k10 : PySem.W.keepIn K (.ref f10) = true)
    (a11 : PySem.W.nsIn K mainGlobals "need_cloth" = some (some (.ref f11))) (l11 : K.lookup f11 = some ⟨oc11, od11, .func (PySem.W.fnOf "need_cloth" "need_cloth" (defArgs s_need_cloth) (defBody s_need_cloth) (defScope s_need_cloth) .none kV11 dc11 pm11 an11 cd11 ct11), sl11⟩) (c11 : PySem.W.codeIn K cd11 "need_cloth" = true) (k11 : PySem.W.keepIn K (.ref f11) = true)
    (a12 : PySem.W.nsIn K mainGlobals "other_sign" = some (some (.ref f12))) (l12 : K.lookup f12 = some ⟨oc12, od12, .func (PySem.W.fnOf "other_sign" "other_sign" (defArgs s_other_sign) (defBody s_other_sign) (defScope s_other_sign) .none kV12 dc12 pm12 an12 cd12 ct12), sl12⟩) (c12 : PySem.W.codeIn K cd12 "other_sign" = true) (k12 : PySem.W.keepIn K (.ref f12) = true)
    (a13 : PySem.W.nsIn K mainGlobals "swapped" = some (some (.ref f13))) (l13 : K.lookup f13 = some ⟨oc13, od13, .func (PySem.W.fnOf "swapped" "swapped" (defArgs s_swapped) (defBody s_swapped) (defScope s_swapped) .none kV13 dc13 pm13 an13 cd13 ct13), sl13⟩) (c13 : PySem.W.codeIn K cd13 "swapped" = true) (k13 : PySem.W.keepIn K (.ref f13) = true)
    (a14 : PySem.W.nsIn K mainGlobals "back_of" = some (some (.ref f14))) (l14 : K.lookup f14 = some ⟨oc14, od14, .func (PySem.W.fnOf "back_of" "back_of" (defArgs s_back_of) (defBody s_back_of) (defScope s_back_of) .none kV14 dc14 pm14 an14 cd14 ct14), sl14⟩) (c14 : PySem.W.codeIn K cd14 "back_of" = true) (k14 : PySem.W.keepIn K (.ref f14) = true)
    (a15 : PySem.W.nsIn K mainGlobals "is_cloth" = some (some (.ref f15))) (l15 : K.lookup f15 = some ⟨oc15, od15, .func (PySem.W.fnOf "is_cloth" "is_cloth" (defArgs s_is_cloth) (defBody s_is_cloth) (defScope s_is_cloth) .none kV15 dc15 pm15 an15 cd15 ct15), sl15⟩) (c15 : PySem.W.codeIn K cd15 "is_cloth" = true) (k15 : PySem.W.keepIn K (.ref f15) = true)
    (a16 : PySem.W.nsIn K mainGlobals "lies_over" = some (some (.ref f16))) (l16 : K.lookup f16 = some ⟨oc16, od16, .func (PySem.W.fnOf "lies_over" "lies_over" (defArgs s_lies_over) (defBody s_lies_over) (defScope s_lies_over) .none kV16 dc16 pm16 an16 cd16 ct16), sl16⟩) (c16 : PySem.W.codeIn K cd16 "lies_over" = true) (k16 : PySem.W.keepIn K (.ref f16) = true)
    (a17 : PySem.W.nsIn K mainGlobals "is_whole" = some (some (.ref f17))) (l17 : K.lookup f17 = some ⟨oc17, od17, .func (PySem.W.fnOf "is_whole" "is_whole" (defArgs s_is_whole) (defBody s_is_whole) (defScope s_is_whole) .none kV17 dc17 pm17 an17 cd17 ct17), sl17⟩) (c17 : PySem.W.codeIn K cd17 "is_whole" = true) (k17 : PySem.W.keepIn K (.ref f17) = true)
    (a18 : PySem.W.nsIn K mainGlobals "fits_thread" = some (some (.ref f18))) (l18 : K.lookup f18 = some ⟨oc18, od18, .func (PySem.W.fnOf "fits_thread" "fits_thread" (defArgs s_fits_thread) (defBody s_fits_thread) (defScope s_fits_thread) .none kV18 dc18 pm18 an18 cd18 ct18), sl18⟩) (c18 : PySem.W.codeIn K cd18 "fits_thread" = true) (k18 : PySem.W.keepIn K (.ref f18) = true)
    (a19 : PySem.W.nsIn K mainGlobals "need_thread" = some (some (.ref f19))) (l19 : K.lookup f19 = some ⟨oc19, od19, .func (PySem.W.fnOf "need_thread" "need_thread" (defArgs s_need_thread) (defBody s_need_thread) (defScope s_need_thread) .none kV19 dc19 pm19 an19 cd19 ct19), sl19⟩) (c19 : PySem.W.codeIn K cd19 "need_thread" = true) (k19 : PySem.W.keepIn K (.ref f19) = true)
    (a20 : PySem.W.nsIn K mainGlobals "is_over" = some (some (.ref f20))) (l20 : K.lookup f20 = some ⟨oc20, od20, .func (PySem.W.fnOf "is_over" "is_over" (defArgs s_is_over) (defBody s_is_over) (defScope s_is_over) .none kV20 dc20 pm20 an20 cd20 ct20), sl20⟩) (c20 : PySem.W.codeIn K cd20 "is_over" = true) (k20 : PySem.W.keepIn K (.ref f20) = true)
    (a21 : PySem.W.nsIn K mainGlobals "threads_in" = some (some (.ref f21))) (l21 : K.lookup f21 = some ⟨oc21, od21, .func (PySem.W.fnOf "threads_in" "threads_in" (defArgs s_threads_in) (defBody s_threads_in) (defScope s_threads_in) .none kV21 dc21 pm21 an21 cd21 ct21), sl21⟩) (c21 : PySem.W.codeIn K cd21 "threads_in" = true) (k21 : PySem.W.keepIn K (.ref f21) = true)
    (a22 : PySem.W.nsIn K mainGlobals "threads_of" = some (some (.ref f22))) (l22 : K.lookup f22 = some ⟨oc22, od22, .func (PySem.W.fnOf "threads_of" "threads_of" (defArgs s_threads_of) (defBody s_threads_of) (defScope s_threads_of) .none kV22 dc22 pm22 an22 cd22 ct22), sl22⟩) (c22 : PySem.W.codeIn K cd22 "threads_of" = true) (k22 : PySem.W.keepIn K (.ref f22) = true)
    (a23 : PySem.W.nsIn K mainGlobals "turned_cloth" = some (some (.ref f23))) (l23 : K.lookup f23 = some ⟨oc23, od23, .func (PySem.W.fnOf "turned_cloth" "turned_cloth" (defArgs s_turned_cloth) (defBody s_turned_cloth) (defScope s_turned_cloth) .none kV23 dc23 pm23 an23 cd23 ct23), sl23⟩) (c23 : PySem.W.codeIn K cd23 "turned_cloth" = true) (k23 : PySem.W.keepIn K (.ref f23) = true)
    (a24 : PySem.W.nsIn K mainGlobals "_law_right" = some (some (.ref f24))) (l24 : K.lookup f24 = some ⟨oc24, od24, .func (PySem.W.fnOf "_law_right" "_law_right" (defArgs s__law_right) (defBody s__law_right) (defScope s__law_right) .none kV24 dc24 pm24 an24 cd24 ct24), sl24⟩) (c24 : PySem.W.codeIn K cd24 "_law_right" = true) (k24 : PySem.W.keepIn K (.ref f24) = true)
    (a25 : PySem.W.nsIn K mainGlobals "law" = some (some (.ref f25))) (l25 : K.lookup f25 = some ⟨oc25, od25, .func (PySem.W.fnOf "law" "law" (defArgs s_law) (defBody s_law) (defScope s_law) .none kV25 dc25 pm25 an25 cd25 ct25), sl25⟩) (c25 : PySem.W.codeIn K cd25 "law" = true) (k25 : PySem.W.keepIn K (.ref f25) = true)
    (z0 : PySem.W.nsIn K mainGlobals "MOST" = some (some (.int 12 it0))) (z1 : PySem.W.nsIn K mainGlobals "abs" = some none) (z2 : PySem.W.nsIn K mainGlobals "all" = some none) (z3 : PySem.W.nsIn K mainGlobals "bool" = some none) (z4 : PySem.W.nsIn K mainGlobals "enumerate" = some none) (z5 : PySem.W.nsIn K mainGlobals "int" = some none) (z6 : PySem.W.nsIn K mainGlobals "isinstance" = some none) (z7 : PySem.W.nsIn K mainGlobals "len" = some none) (z8 : PySem.W.nsIn K mainGlobals "list" = some none) (z9 : PySem.W.nsIn K mainGlobals "range" = some none) (z10 : PySem.W.nsIn K mainGlobals "str" = some none) (z11 : PySem.W.nsIn K mainGlobals "tuple" = some none) (z12 : PySem.W.nsIn K mainGlobals "zip" = some none) (z13 : PySem.W.nsIn K mainGlobals "DOWN" = some (some (.str zs13 it13))) (q13 : zs13.cps.toList = [46]) (z14 : PySem.W.nsIn K mainGlobals "UP" = some (some (.str zs14 it14))) (q14 : zs14.cps.toList = [35]) :
    ∃ fd : FuncData, (∀ (s : Shared) (v : Value), BindsTo s fd ⟨[v], []⟩ [("script", v)]) ∧ ∀ base : Heap, K.In base → base.Ns mainGlobals mg → FnOk l.prog w K mg base (L2.CX l.prog w) 12 fa fd ["script"] (spEnd K) := by
  have fx : Fx K mg := ⟨⟨_, PySem.W.mg_of X G z0⟩, PySem.W.mg_none_of X G z1, PySem.W.mg_none_of X G z2, PySem.W.mg_none_of X G z3, PySem.W.mg_none_of X G z4, PySem.W.mg_none_of X G z5, PySem.W.mg_none_of X G z6, PySem.W.mg_none_of X G z7, PySem.W.mg_none_of X G z8, PySem.W.mg_none_of X G z9, PySem.W.mg_none_of X G z10, PySem.W.mg_none_of X G z11, PySem.W.mg_none_of X G z12, ⟨_, _, PySem.W.mg_of X G z13, q13, by decide⟩, ⟨_, _, PySem.W.mg_of X G z14, q14, by decide⟩⟩
  have F0 := fun_mk (st := s__law_roll) l0 c0 k0
  have b0 := F0.binds (ps := ["cup", "many"]) fun _ _ _ _ _ _ us hl => match us, hl with | [_, _], _ => rfl
  have F1 := fun_mk (st := s__law_some) l1 c1 k1
  have b1 := F1.binds (ps := ["cup", "things"]) fun _ _ _ _ _ _ us hl => match us, hl with | [_, _], _ => rfl
  have F2 := fun_mk (st := s__law_cloth) l2 c2 k2
  have b2 := F2.binds (ps := ["cup", "picks", "ends"]) fun _ _ _ _ _ _ us hl => match us, hl with | [_, _, _], _ => rfl
  have F3 := fun_mk (st := s__law_cup) l3 c3 k3
  have b3 := F3.binds (ps := ["script"]) fun _ _ _ _ _ _ us hl => match us, hl with | [_], _ => rfl
  have F4 := fun_mk (st := s__law_sort) l4 c4 k4
  have b4 := F4.binds (ps := ["value"]) fun _ _ _ _ _ _ us hl => match us, hl with | [_], _ => rfl
  have F5 := fun_mk (st := s__law_like) l5 c5 k5
  have b5 := F5.binds (ps := ["one", "other"]) fun _ _ _ _ _ _ us hl => match us, hl with | [_, _], _ => rfl
  have F6 := fun_mk (st := s__law_canvas) l6 c6 k6
  have b6 := F6.binds (ps := ["cloth"]) fun _ _ _ _ _ _ us hl => match us, hl with | [_], _ => rfl
  have F7 := fun_mk (st := s__law_seen) l7 c7 k7
  have b7 := F7.binds (ps := ["canvas", "picks", "ends"]) fun _ _ _ _ _ _ us hl => match us, hl with | [_, _, _], _ => rfl
  have F8 := fun_mk (st := s_is_tuple_of) l8 c8 k8
  have b8 := F8.binds (ps := ["value", "low", "high"]) fun _ _ _ _ _ _ us hl => match us, hl with | [_, _, _], _ => rfl
  have F9 := fun_mk (st := s_is_word) l9 c9 k9
  have b9 := F9.binds (ps := ["value", "signs", "low", "high"]) fun _ _ _ _ _ _ us hl => match us, hl with | [_, _, _, _], _ => rfl
  have F10 := fun_mk (st := s_fits_cloth) l10 c10 k10
  have b10 := F10.binds (ps := ["value"]) fun _ _ _ _ _ _ us hl => match us, hl with | [_], _ => rfl
  have F11 := fun_mk (st := s_need_cloth) l11 c11 k11
  have b11 := F11.binds (ps := ["value"]) fun _ _ _ _ _ _ us hl => match us, hl with | [_], _ => rfl
  have F12 := fun_mk (st := s_other_sign) l12 c12 k12
  have b12 := F12.binds (ps := ["sign"]) fun _ _ _ _ _ _ us hl => match us, hl with | [_], _ => rfl
  have F13 := fun_mk (st := s_swapped) l13 c13 k13
  have b13 := F13.binds (ps := ["pick"]) fun _ _ _ _ _ _ us hl => match us, hl with | [_], _ => rfl
  have F14 := fun_mk (st := s_back_of) l14 c14 k14
  have b14 := F14.binds (ps := ["cloth"]) fun _ _ _ _ _ _ us hl => match us, hl with | [_], _ => rfl
  have F15 := fun_mk (st := s_is_cloth) l15 c15 k15
  have b15 := F15.binds (ps := ["value"]) fun _ _ _ _ _ _ us hl => match us, hl with | [_], _ => rfl
  have F16 := fun_mk (st := s_lies_over) l16 c16 k16
  have b16 := F16.binds (ps := ["cloth", "one", "other"]) fun _ _ _ _ _ _ us hl => match us, hl with | [_, _, _], _ => rfl
  have F17 := fun_mk (st := s_is_whole) l17 c17 k17
  have b17 := F17.binds (ps := ["value", "low", "high"]) fun _ _ _ _ _ _ us hl => match us, hl with | [_, _, _], _ => rfl
  have F18 := fun_mk (st := s_fits_thread) l18 c18 k18
  have b18 := F18.binds (ps := ["cloth", "value"]) fun _ _ _ _ _ _ us hl => match us, hl with | [_, _], _ => rfl
  have F19 := fun_mk (st := s_need_thread) l19 c19 k19
  have b19 := F19.binds (ps := ["cloth", "value"]) fun _ _ _ _ _ _ us hl => match us, hl with | [_, _], _ => rfl
  have F20 := fun_mk (st := s_is_over) l20 c20 k20
  have b20 := F20.binds (ps := ["cloth", "one", "other"]) fun _ _ _ _ _ _ us hl => match us, hl with | [_, _, _], _ => rfl
  have F21 := fun_mk (st := s_threads_in) l21 c21 k21
  have b21 := F21.binds (ps := ["cloth"]) fun _ _ _ _ _ _ us hl => match us, hl with | [_], _ => rfl
  have F22 := fun_mk (st := s_threads_of) l22 c22 k22
  have b22 := F22.binds (ps := ["cloth"]) fun _ _ _ _ _ _ us hl => match us, hl with | [_], _ => rfl
  have F23 := fun_mk (st := s_turned_cloth) l23 c23 k23
  have b23 := F23.binds (ps := ["cloth"]) fun _ _ _ _ _ _ us hl => match us, hl with | [_], _ => rfl
  have F24 := fun_mk (st := s__law_right) l24 c24 k24
  have b24 := F24.binds (ps := ["cup", "cloth"]) fun _ _ _ _ _ _ us hl => match us, hl with | [_, _], _ => rfl
  have F25 := fun_mk (st := s_law) l25 c25 k25
  have C0 : ∀ base, Cal l.prog w K mg base 1 "_law_roll" 2 G__law_roll := fun base => ok__law_roll fx F0 (PySem.W.mg_of X G a0) b0
  have C1 : ∀ base, Cal l.prog w K mg base 2 "_law_some" 2 G__law_some := fun base => ok__law_some fx (C0 base) F1 (PySem.W.mg_of X G a1) b1
  have C2 : ∀ base, Cal l.prog w K mg base 3 "_law_cloth" 3 G__law_cloth := fun base => ok__law_cloth fx (C0 base) (C1 base) F2 (PySem.W.mg_of X G a2) b2
  have C3 : ∀ base, Cal l.prog w K mg base 1 "_law_cup" 1 G__law_cup := fun base => ok__law_cup fx F3 (PySem.W.mg_of X G a3) b3
  have C4 : ∀ base, Cal l.prog w K mg base 1 "_law_sort" 1 G__law_sort := fun base => ok__law_sort fx F4 (PySem.W.mg_of X G a4) b4
  have C5 : ∀ base, Cal l.prog w K mg base 10 "_law_like" 2 G__law_like := fun base => ok__law_like fx (C4 base) F5 (PySem.W.mg_of X G a5) b5
  have C6 : ∀ base, Cal l.prog w K mg base 1 "_law_canvas" 1 G__law_canvas := fun base => ok__law_canvas fx F6 (PySem.W.mg_of X G a6) b6
  have C7 : ∀ base, Cal l.prog w K mg base 1 "_law_seen" 3 G__law_seen := fun base => ok__law_seen fx F7 (PySem.W.mg_of X G a7) b7
  have C8 : ∀ base, Cal l.prog w K mg base 1 "is_tuple_of" 3 G_is_tuple_of := fun base => ok_is_tuple_of fx F8 (PySem.W.mg_of X G a8) b8
  have C9 : ∀ base, Cal l.prog w K mg base 1 "is_word" 4 G_is_word := fun base => ok_is_word fx F9 (PySem.W.mg_of X G a9) b9
  have C10 : ∀ base, Cal l.prog w K mg base 2 "fits_cloth" 1 G_fits_cloth := fun base => ok_fits_cloth fx (C8 base) (C9 base) F10 (PySem.W.mg_of X G a10) b10
  have C11 : ∀ base, Cal l.prog w K mg base 3 "need_cloth" 1 G_need_cloth := fun base => ok_need_cloth fx (C10 base) F11 (PySem.W.mg_of X G a11) b11
  have C12 : ∀ base, Cal l.prog w K mg base 1 "other_sign" 1 G_other_sign := fun base => ok_other_sign fx F12 (PySem.W.mg_of X G a12) b12
  have C13 : ∀ base, Cal l.prog w K mg base 2 "swapped" 1 G_swapped := fun base => ok_swapped fx (C12 base) F13 (PySem.W.mg_of X G a13) b13
  have C14 : ∀ base, Cal l.prog w K mg base 4 "back_of" 1 G_back_of := fun base => ok_back_of fx (C11 base) (C13 base) F14 (PySem.W.mg_of X G a14) b14
  have C15 : ∀ base, Cal l.prog w K mg base 3 "is_cloth" 1 G_is_cloth := fun base => ok_is_cloth fx (C10 base) F15 (PySem.W.mg_of X G a15) b15
  have C16 : ∀ base, Cal l.prog w K mg base 1 "lies_over" 3 G_lies_over := fun base => ok_lies_over fx F16 (PySem.W.mg_of X G a16) b16
  have C17 : ∀ base, Cal l.prog w K mg base 1 "is_whole" 3 G_is_whole := fun base => ok_is_whole fx F17 (PySem.W.mg_of X G a17) b17
  have C18 : ∀ base, Cal l.prog w K mg base 2 "fits_thread" 2 G_fits_thread := fun base => ok_fits_thread fx (C8 base) (C17 base) F18 (PySem.W.mg_of X G a18) b18
  have C19 : ∀ base, Cal l.prog w K mg base 3 "need_thread" 2 G_need_thread := fun base => ok_need_thread fx (C18 base) F19 (PySem.W.mg_of X G a19) b19
  have C20 : ∀ base, Cal l.prog w K mg base 4 "is_over" 3 G_is_over := fun base => ok_is_over fx (C11 base) (C16 base) (C19 base) F20 (PySem.W.mg_of X G a20) b20
  have C21 : ∀ base, Cal l.prog w K mg base 1 "threads_in" 1 G_threads_in := fun base => ok_threads_in fx F21 (PySem.W.mg_of X G a21) b21
  have C22 : ∀ base, Cal l.prog w K mg base 4 "threads_of" 1 G_threads_of := fun base => ok_threads_of fx (C11 base) (C21 base) F22 (PySem.W.mg_of X G a22) b22
  have C23 : ∀ base, Cal l.prog w K mg base 4 "turned_cloth" 1 G_turned_cloth := fun base => ok_turned_cloth fx (C11 base) (C13 base) F23 (PySem.W.mg_of X G a23) b23
  have C24 : ∀ base, Cal l.prog w K mg base 11 "_law_right" 2 G__law_right := fun base => ok__law_right fx (C0 base) (C1 base) (C5 base) (C6 base) (C7 base) (C14 base) (C15 base) (C20 base) (C22 base) (C23 base) F24 (PySem.W.mg_of X G a24) b24
  have C25 : ∀ base, FnOk l.prog w K mg base (L2.CX l.prog w) 12 f25 _ ["script"] (spG K mg 1 G_law) := fun base => ok_law fx (C1 base) (C2 base) (C3 base) (C5 base) (C14 base) (C20 base) (C22 base) (C23 base) (C24 base) F25
  have e := hfa.symm.trans (PySem.W.mg_of X G a25)
  cases e
  exact ⟨PySem.W.fnOf "law" "law" (defArgs s_law) (defBody s_law) (defScope s_law) .none kV25 dc25 pm25 an25 cd25 ct25, fun s v => .of_eq rfl, fun base _ _ => law_end2 (C25 base) law⟩
end K01

set_option Elab.async false
set_option linter.all false
set_option maxRecDepth 100000
set_option maxHeartbeats 2000000
namespace K01
open Z L2
/-! ### the law's cup, draws, likeness -/
theorem roll {a b m : Int} {t : Sto} (h : Ck a b) (ht : Tk t) (h1 : 1 ≤ m) (h2 : m < 1073741824) : ∃ r a' b', G__law_roll [.obj 0, .int m] (cupO a b :: t) = .ok (.int r) (cupO a' b' :: t) ∧ Ck a' b' ∧ 0 ≤ r ∧ r < m := by
  obtain ⟨ha, hb, hb2⟩ := h
  have hall : ∀ a b : Int, (cupO a b :: t).all (oldsO (cupO 0 0 :: t).length) = true := fun a b => by
    rw [List.all_cons, show oldsO (cupO 0 0 :: t).length (cupO a b) = true from rfl]; exact ht
  have hx : ∀ (a b r : Int) (s : Sto), s.length = (cupO 0 0 :: t).length → exitF s (.rt (.int r) (cupO a b :: t)) = .ok (.int r) (cupO a b :: t) := fun a b r s hs => by
    have := exit_to (s := s) (s' := cupO a b :: t) (x := []) (d := .int r) (d' := .int r) (by rw [hs]; rfl) (by rw [hs]; exact hall a b) (fz_old rfl 8)
    rwa [List.append_nil] at this
  unfold G__law_roll
  rw [runB_ap 2 4 _ _ _ rfl]
  unfold B__law_roll
  by_cases h0 : 0 < a
  · refine ⟨a % m, a / m, b, ?_, ⟨Int.ediv_nonneg ha (by omega), hb, hb2⟩, Int.emod_nonneg _ (by omega), Int.emod_lt_of_pos _ (by omega)⟩
    have e1 : atI [D.int a, D.int b] 0 = some (.int a) := rfl
    simp only [startD, List.map, List.replicate, List.length, List.append, Nat.reduceSub, Nat.reduceAdd, List.cons_append, List.nil_append, sSeq_ap, sIf_ap, sRet_ap, sExp_ap, sNil_ap, sPar_ap, sPar3_ap, sAsg_ap, gN_ap, sFor_ap, dC_ap, dVar0, dVarS, set0, setS, dOp_ap, dOp1_ap, dTst_ap, isB_bl, dChain_ap, tAndD_ap, tOrD_ap, tNotD_ap, dAnd_ap, dOr_ap, dNot_ap, dIf_ap, aNil_ap, aCons_ap, dTup_ap, dLst_ap, dNew_ap, dB_ap, dM_ap, dMK_ap, dFn_ap, dSl_ap, dRev_ap, dDS_ap, dDct_ap, dDGet_ap, dOpN_ap, dLenSet_ap, dTupRg_ap, dListRg_ap, oNone_ap, oSome_ap, iSeq_ap, iA_ap, dComp_ap, dCompNew_ap, bind_ok, toF_ok, seq_nx, seq_rt, lift_s, mGo_s, if_t, if_f, if_true, if_false, Bool.false_eq_true, reduceCtorEq, ixD, sqA, sqL, List.getElem?_cons_zero, e1, gtO, decide_eq_true h0, intD, modD, show (0 : Int) < m by omega, fdivD, h2, and_self, if_true, gSubD, setD, ixN, Option.map_some, List.set_cons_zero]
    exact hx _ _ _ _ rfl
  · refine ⟨((b * 31051 + 7993) % 2147483543 * ((b * 31051 + 7993) % 2147483543 + 229) % 2147483587 / 821) % m, a, (b * 31051 + 7993) % 2147483543, ?_, ⟨ha, Int.emod_nonneg _ (by omega), Int.lt_trans (Int.emod_lt_of_pos _ (by omega)) (by omega)⟩, Int.emod_nonneg _ (by omega), Int.emod_lt_of_pos _ (by omega)⟩
    have e1 : ∀ b : Int, atI [D.int a, D.int b] 0 = some (.int a) := fun _ => rfl
    have e2 : ∀ b : Int, atI [D.int a, D.int b] 1 = some (.int b) := fun _ => rfl
    have c1 : (c64 b || c64 31051) = true := by rw [Bool.or_eq_true]; right; rw [c64_iff]; omega
    have k1 : 0 ≤ (b * 31051 + 7993) % 2147483543 := Int.emod_nonneg _ (by omega)
    have k2 : (b * 31051 + 7993) % 2147483543 < 2147483543 := Int.emod_lt_of_pos _ (by omega)
    have c2 : (c64 ((b * 31051 + 7993) % 2147483543) || c64 ((b * 31051 + 7993) % 2147483543 + 229)) = true := by
      rw [Bool.or_eq_true]; left; rw [c64_iff]; omega
    have n1 : ixN 2 1 = some 1 := rfl
    simp only [startD, List.map, List.replicate, List.length, List.append, Nat.reduceSub, Nat.reduceAdd, List.cons_append, List.nil_append, sSeq_ap, sIf_ap, sRet_ap, sExp_ap, sNil_ap, sPar_ap, sPar3_ap, sAsg_ap, gN_ap, sFor_ap, dC_ap, dVar0, dVarS, set0, setS, dOp_ap, dOp1_ap, dTst_ap, isB_bl, dChain_ap, tAndD_ap, tOrD_ap, tNotD_ap, dAnd_ap, dOr_ap, dNot_ap, dIf_ap, aNil_ap, aCons_ap, dTup_ap, dLst_ap, dNew_ap, dB_ap, dM_ap, dMK_ap, dFn_ap, dSl_ap, dRev_ap, dDS_ap, dDct_ap, dDGet_ap, dOpN_ap, dLenSet_ap, dTupRg_ap, dListRg_ap, oNone_ap, oSome_ap, iSeq_ap, iA_ap, dComp_ap, dCompNew_ap, bind_ok, toF_ok, seq_nx, seq_rt, lift_s, mGo_s, if_t, if_f, if_true, if_false, Bool.false_eq_true, reduceCtorEq, ixD, sqA, sqL, List.getElem?_cons_zero, e1, e2, gtO, decide_eq_false h0, intD, modD, fdivD, mulD2_int, mulD, addD, c1, c2, show (0 : Int) < m by omega, show (0 : Int) < 2147483543 by omega, show (0 : Int) < 2147483587 by omega, show (0 : Int) < 821 by omega, show (821 : Int) < 1073741824 by omega, and_self, if_true, gSubD, setD, n1, Option.map_some, List.set_cons_zero, List.set_cons_succ]
    exact hx _ _ _ _ rfl
theorem some_ok {a b : Int} {t : Sto} {x : D} {xs : List D} (h : Ck a b) (ht : Tk t) (hx : lenD [x] (cupO a b :: t) = some (.int xs.length)) (hi : ∀ a' b' r, 0 ≤ r → r < (xs.length : Int) → ∃ d ∈ xs, ixD x (.int r) (cupO a' b' :: t) = some d) (hn : xs ≠ []) (hl : xs.length < 1073741824) (ho : ∀ d ∈ xs, olds (t.length + 1) d = true) :
    ∃ d a' b', G__law_some [.obj 0, x] (cupO a b :: t) = .ok d (cupO a' b' :: t) ∧ Ck a' b' ∧ d ∈ xs := by
  have hp : 1 ≤ (xs.length : Int) := by cases xs with
    | nil => exact absurd rfl hn
    | cons x r => rw [List.length_cons]; omega
  obtain ⟨r, a', b', e, ck, h0, h1⟩ := roll h ht hp (by omega)
  obtain ⟨d, hd, ed⟩ := hi a' b' r h0 h1
  refine ⟨d, a', b', ?_, ck, hd⟩
  unfold G__law_some
  rw [runB_ap 2 2 _ _ _ rfl]
  unfold B__law_some
  simp only [startD, List.map, List.replicate, List.length, Nat.sub_self, List.cons_append, List.nil_append, List.append_nil, sSeq_ap, sIf_ap, sRet_ap, sExp_ap, sNil_ap, sPar_ap, sPar3_ap, sAsg_ap, gN_ap, sFor_ap, dC_ap, dVar0, dVarS, set0, setS, dOp_ap, dOp1_ap, dTst_ap, isB_bl, dChain_ap, tAndD_ap, tOrD_ap, tNotD_ap, dAnd_ap, dOr_ap, dNot_ap, dIf_ap, aNil_ap, aCons_ap, dTup_ap, dLst_ap, dNew_ap, dB_ap, dM_ap, dMK_ap, dFn_ap, dSl_ap, dRev_ap, dDS_ap, dDct_ap, dDGet_ap, dOpN_ap, dLenSet_ap, dTupRg_ap, dListRg_ap, oNone_ap, oSome_ap, iSeq_ap, iA_ap, dComp_ap, dCompNew_ap, bind_ok, toF_ok, seq_nx, seq_rt, lift_s, mGo_s, if_t, if_f, if_true, if_false, Bool.false_eq_true, reduceCtorEq, hx, e, ed]
  have := exit_to (s := cupO a b :: t) (s' := cupO a' b' :: t) (x := []) (d := d) (d' := d) rfl (by rw [List.all_cons, show oldsO (cupO a b :: t).length (cupO a' b') = true from rfl]; exact ht) (fz_old (ho d hd) 8)
  rwa [List.append_nil] at this
theorem some_lst {a b : Int} {t : Sto} {xs : List D} (h : Ck a b) (ht : Tk t) (hn : xs ≠ []) (hl : xs.length < 1073741824) (ho : ∀ d ∈ xs, olds (t.length + 1) d = true) :
    ∃ d a' b', G__law_some [.obj 0, .lst xs] (cupO a b :: t) = .ok d (cupO a' b' :: t) ∧ Ck a' b' ∧ d ∈ xs :=
  some_ok h ht rfl (fun a' b' r h0 h1 => atI_mem h0 h1) hn hl ho
theorem some_tup {a b : Int} {t : Sto} {xs : List D} (h : Ck a b) (ht : Tk t) (hn : xs ≠ []) (hl : xs.length < 1073741824) (ho : ∀ d ∈ xs, olds (t.length + 1) d = true) :
    ∃ d a' b', G__law_some [.obj 0, .tup xs] (cupO a b :: t) = .ok d (cupO a' b' :: t) ∧ Ck a' b' ∧ d ∈ xs :=
  some_ok h ht rfl (fun a' b' r h0 h1 => atI_mem h0 h1) hn hl ho
theorem some_str {a b : Int} {t : Sto} {xs : List Nat} (h : Ck a b) (ht : Tk t) (hn : xs ≠ []) (hl : xs.length < 1073741824) :
    ∃ c a' b', G__law_some [.obj 0, .str xs] (cupO a b :: t) = .ok (.str [c]) (cupO a' b' :: t) ∧ Ck a' b' ∧ c ∈ xs := by
  obtain ⟨d, a', b', e, ck, hd⟩ := some_ok (x := .str xs) (xs := xs.map fun c => .str [c]) h ht (by simp [lenD]) (fun a' b' r h0 h1 => by
    obtain ⟨c, hc, e⟩ := atI_mem (xs := xs) h0 (by simpa using h1)
    exact ⟨.str [c], List.mem_map.mpr ⟨c, hc, rfl⟩, by simp only [ixD, e, Option.map_some]⟩) (by simpa using hn) (by simpa using hl) (fun d hd => by
    obtain ⟨c, _, rfl⟩ := List.mem_map.mp hd
    rfl)
  obtain ⟨c, hc, rfl⟩ := List.mem_map.mp hd
  exact ⟨c, a', b', e, ck, hc⟩
theorem cup (ns : List Int) (hl : ns.length ≤ 63) : ∃ a b, G__law_cup [.fzl (ns.map D.int)] [] = .ok (.obj 0) [cupO a b] ∧ Ck a b := by
  obtain ⟨c, hc⟩ : ∃ c, atI (ns.map D.int ++ [D.int 0]) 0 = some (.int c) := by cases ns with
    | nil => exact ⟨0, rfl⟩
    | cons n r => exact ⟨n, L2.atI_nat (j := 0) rfl⟩
  have habs : 0 ≤ (if c < 0 then -c else c) := by split <;> omega
  obtain ⟨z, hz⟩ : ∃ z, (if c < 0 then -c else c) = z := ⟨_, rfl⟩
  rw [hz] at habs
  have hb : ∀ a b : Int, exitN [] (F.rt (.obj 0) ([] ++ [O.lst [.int a, .int b]])) = .ok (.obj 0) [cupO a b] := fun a b => rfl
  have hlen : ns.length ≤ 16777215 := by omega
  have c1 : (c64 z || c64 283) = true := by rw [Bool.or_eq_true]; right; rw [c64_iff]; omega
  have hp : powD (.int 10) (.int 18) [] = some (.int 1000000000000000000) := by decide +kernel
  refine ⟨if decide (1000000000000000000 ≤ z) = true then z / 73 else 0, (z * 283 + 3907) % 2077503167 + 167, ?_, ?_, ?_, ?_⟩
  · unfold G__law_cup
    rw [runN_ap 1 2 _ _ _ rfl]
    unfold B__law_cup
    simp only [startD, List.map, List.replicate, List.length, Nat.reduceSub, Nat.reduceAdd, List.cons_append, List.nil_append, List.append_nil, sSeq_ap, sIf_ap, sRet_ap, sExp_ap, sNil_ap, sPar_ap, sPar3_ap, sAsg_ap, gN_ap, sFor_ap, dC_ap, dVar0, dVarS, set0, setS, dOp_ap, dOp1_ap, dTst_ap, isB_bl, dChain_ap, tAndD_ap, tOrD_ap, tNotD_ap, dAnd_ap, dOr_ap, dNot_ap, dIf_ap, aNil_ap, aCons_ap, dTup_ap, dLst_ap, dNew_ap, dB_ap, dM_ap, dMK_ap, dFn_ap, dSl_ap, dRev_ap, dDS_ap, dDct_ap, dDGet_ap, dOpN_ap, dLenSet_ap, dTupRg_ap, dListRg_ap, oNone_ap, oSome_ap, iSeq_ap, iA_ap, dComp_ap, dCompNew_ap, bind_ok, toF_ok, seq_nx, seq_rt, lift_s, mGo_s, if_t, if_f, if_true, if_false, Bool.false_eq_true, reduceCtorEq, listD2, listD, addD, sqL, show [D.int 0].length ≤ 16777216 by decide, if_true, List.length_map, Nat.reduceLeDiff, hlen, ixD, sqA, hc, absD, hz, hp, geO, intD, mulD2_int, mulD, c1, modD, show (0 : Int) < 2077503167 by omega]
    by_cases hq : (1000000000000000000 : Int) ≤ z
    · simp only [decide_eq_true hq, if_true, sSeq_ap, sIf_ap, sRet_ap, sExp_ap, sNil_ap, sPar_ap, sPar3_ap, sAsg_ap, gN_ap, sFor_ap, dC_ap, dVar0, dVarS, set0, setS, dOp_ap, dOp1_ap, dTst_ap, isB_bl, dChain_ap, tAndD_ap, tOrD_ap, tNotD_ap, dAnd_ap, dOr_ap, dNot_ap, dIf_ap, aNil_ap, aCons_ap, dTup_ap, dLst_ap, dNew_ap, dB_ap, dM_ap, dMK_ap, dFn_ap, dSl_ap, dRev_ap, dDS_ap, dDct_ap, dDGet_ap, dOpN_ap, dLenSet_ap, dTupRg_ap, dListRg_ap, oNone_ap, oSome_ap, iSeq_ap, iA_ap, dComp_ap, dCompNew_ap, bind_ok, toF_ok, seq_nx, seq_rt, lift_s, mGo_s, if_t, if_f, if_true, if_false, Bool.false_eq_true, reduceCtorEq, fdivD, show (0 : Int) < 73 by omega, show (73 : Int) < 1073741824 by omega, and_self, addD, hb, List.length, Nat.reduceAdd, Nat.reduceLeDiff]
    · simp only [decide_eq_false hq, if_false, Bool.false_eq_true, sSeq_ap, sIf_ap, sRet_ap, sExp_ap, sNil_ap, sPar_ap, sPar3_ap, sAsg_ap, gN_ap, sFor_ap, dC_ap, dVar0, dVarS, set0, setS, dOp_ap, dOp1_ap, dTst_ap, isB_bl, dChain_ap, tAndD_ap, tOrD_ap, tNotD_ap, dAnd_ap, dOr_ap, dNot_ap, dIf_ap, aNil_ap, aCons_ap, dTup_ap, dLst_ap, dNew_ap, dB_ap, dM_ap, dMK_ap, dFn_ap, dSl_ap, dRev_ap, dDS_ap, dDct_ap, dDGet_ap, dOpN_ap, dLenSet_ap, dTupRg_ap, dListRg_ap, oNone_ap, oSome_ap, iSeq_ap, iA_ap, dComp_ap, dCompNew_ap, bind_ok, toF_ok, seq_nx, seq_rt, lift_s, mGo_s, if_t, if_f, if_true, if_false, Bool.false_eq_true, reduceCtorEq, addD, hb, List.length, Nat.reduceAdd, Nat.reduceLeDiff, if_true]
  · split
    · exact Int.ediv_nonneg habs (by omega)
    · omega
  · have := Int.emod_nonneg (z * 283 + 3907) (show (2077503167 : Int) ≠ 0 by omega); omega
  · have := Int.emod_lt_of_pos (z * 283 + 3907) (show (0 : Int) < 2077503167 by omega); omega
theorem sort_ok {d : D} {k : Int} (s : Sto) (h : kindN d = some k) : G__law_sort [d] s = .ok (.int k) s := by
  unfold G__law_sort
  rw [runB_ap 1 1 _ _ _ rfl]
  unfold B__law_sort
  have hx : ∀ i : Int, exitF s (.rt (.int i) s) = .ok (.int i) s := fun i => exit_same rfl
  cases d <;> simp only [kindN, Option.some.injEq, reduceCtorEq] at h <;> subst h <;>
    simp only [startD, List.map, List.replicate, List.length, Nat.reduceSub, Nat.reduceAdd, List.cons_append, List.nil_append, List.append_nil, sSeq_ap, sIf_ap, sRet_ap, sExp_ap, sNil_ap, sPar_ap, sPar3_ap, sAsg_ap, gN_ap, sFor_ap, dC_ap, dVar0, dVarS, set0, setS, dOp_ap, dOp1_ap, dTst_ap, isB_bl, dChain_ap, tAndD_ap, tOrD_ap, tNotD_ap, dAnd_ap, dOr_ap, dNot_ap, dIf_ap, aNil_ap, aCons_ap, dTup_ap, dLst_ap, dNew_ap, dB_ap, dM_ap, dMK_ap, dFn_ap, dSl_ap, dRev_ap, dDS_ap, dDct_ap, dDGet_ap, dOpN_ap, dLenSet_ap, dTupRg_ap, dListRg_ap, oNone_ap, oSome_ap, iSeq_ap, iA_ap, dComp_ap, dCompNew_ap, bind_ok, toF_ok, seq_nx, seq_rt, lift_s, mGo_s, if_t, if_f, if_true, if_false, Bool.false_eq_true, reduceCtorEq, isO, isNonD, isiD, tyN, isiT_1, isiT_2, isiT_3, isiT_4, isiT_5, Option.map_some, isiB_tab, if_true, if_false, Bool.false_eq_true, hx, Bool.or_self, Bool.or_false, Bool.false_or]
theorem like_seq (s : Sto) {n : Nat} {d0 d1 k : Option D} {g : Grd} (ok : okG g s = true) (xs ys : List D) (h1 : xs.length ≤ 65536) (h3 : ys.length ≤ 65536) (h2 : xs.all (lkS n) = true) (h4 : ys.all (lkS n) = true)
    (ih : ∀ d e, lkS n d = true → lkS n e = true → H__law_like n [d, e] s = .ok (.bl (decide (d = e))) s) :
    cmpD (gTupD 2 (gsCons (gN 3) (gsCons (gN 4) gsNil))) (T1__law_like (H__law_like n)) (dC (.int 1)) g (wipeD [d0, d1, k, none, none] [3, 4]) (zipL xs ys) [] s = .ok (((zipL xs ys).filter neP).map fun _ => .int 1) s := by
  have := cmp_pure (t := gTupD 2 (gsCons (gN 3) (gsCons (gN 4) gsNil))) (c := T1__law_like (H__law_like n)) (elt := dC (.int 1)) (ρ := wipeD [d0, d1, k, none, none] [3, 4]) neP (fun _ => .int 1) ok (zipL xs ys) [] (fun d hd => by
    obtain ⟨x, y, hx, hy, rfl⟩ := zipL_mem hd
    refine ⟨[d0, d1, k, some x, some y], rfl, ?_, fun _ => rfl⟩
    unfold T1__law_like
    simp only [sSeq_ap, sIf_ap, sRet_ap, sExp_ap, sNil_ap, sPar_ap, sPar3_ap, sAsg_ap, gN_ap, sFor_ap, dC_ap, dVar0, dVarS, set0, setS, dOp_ap, dOp1_ap, dTst_ap, isB_bl, dChain_ap, tAndD_ap, tOrD_ap, tNotD_ap, dAnd_ap, dOr_ap, dNot_ap, dIf_ap, aNil_ap, aCons_ap, dTup_ap, dLst_ap, dNew_ap, dB_ap, dM_ap, dMK_ap, dFn_ap, dSl_ap, dRev_ap, dDS_ap, dDct_ap, dDGet_ap, dOpN_ap, dLenSet_ap, dTupRg_ap, dListRg_ap, oNone_ap, oSome_ap, iSeq_ap, iA_ap, dComp_ap, dCompNew_ap, bind_ok, toF_ok, seq_nx, seq_rt, lift_s, mGo_s, if_t, if_f, if_true, if_false, Bool.false_eq_true, reduceCtorEq, ih x y (List.all_eq_true.mp h2 x hx) (List.all_eq_true.mp h4 y hy)]
    rfl) (by
      have : (zipL xs ys).length ≤ xs.length := by unfold zipL; rw [List.length_zipWith]; omega
      simp; omega)
  simpa using this
theorem like_st (s : Sto) (n : Nat) (d e : D) (hd : lk n d = true) (he : lk n e = true) (ih : ∀ d e, lkS n d = true → lkS n e = true → H__law_like n [d, e] s = .ok (.bl (decide (d = e))) s) : H__law_like (n + 1) [d, e] s = .ok (.bl (decide (d = e))) s := by
  have hx : ∀ b : Bool, exitF s (.rt (.bl b) s) = .ok (.bl b) s := fun i => exit_same rfl
  obtain ⟨k, hk⟩ := lk_kind hd
  obtain ⟨k', hk'⟩ := lk_kind he
  unfold H__law_like
  rw [runB_ap 2 5 _ _ _ rfl]
  unfold B__law_like
  simp only [startD, List.map, List.replicate, List.length, Nat.reduceSub, Nat.reduceAdd, List.cons_append, List.nil_append, List.append_nil]
  by_cases hkk : k = k'
  · subst hkk
    have h6 : (k == 6) = false := kind6 hk
    by_cases hl : lk 0 d = true
    · have hl' := leaf_same hl he hk hk'
      have hin := in45 (s := s) (leaf_in hl hk)
      simp only [sSeq_ap, sIf_ap, sRet_ap, sExp_ap, sNil_ap, sPar_ap, sPar3_ap, sAsg_ap, gN_ap, sFor_ap, dC_ap, dVar0, dVarS, set0, setS, dOp_ap, dOp1_ap, dTst_ap, isB_bl, dChain_ap, tAndD_ap, tOrD_ap, tNotD_ap, dAnd_ap, dOr_ap, dNot_ap, dIf_ap, aNil_ap, aCons_ap, dTup_ap, dLst_ap, dNew_ap, dB_ap, dM_ap, dMK_ap, dFn_ap, dSl_ap, dRev_ap, dDS_ap, dDct_ap, dDGet_ap, dOpN_ap, dLenSet_ap, dTupRg_ap, dListRg_ap, oNone_ap, oSome_ap, iSeq_ap, iA_ap, dComp_ap, dCompNew_ap, bind_ok, toF_ok, seq_nx, seq_rt, lift_s, mGo_s, if_t, if_f, if_true, if_false, Bool.false_eq_true, reduceCtorEq, sort_ok s hk, sort_ok s hk', neO_int, BEq.rfl, Bool.not_true, eqO_int, h6, List.length, Nat.reduceAdd, Nat.reduceLeDiff, hin, eqO_leaf s hl hl' hk hk', hx]
    · rcases lk_seq hd hl with ⟨xs, rfl, h1, h2⟩ | ⟨xs, rfl, h1, h2⟩
      · have hs1 := sort_ok s hk
        cases hk
        obtain ⟨ys, rfl⟩ := kind_tup hk'
        obtain ⟨h3, h4⟩ := lk_tup he
        have hin := in45 (s := s) (k := 4) (b := true) rfl
        have hq := like_seq s (d0 := some (.tup xs)) (d1 := some (.tup ys)) (k := some (.int 4)) (g := []) rfl xs ys h1 h3 h2 h4 ih
        by_cases hlen : xs.length = ys.length
        · have hl1 : ((xs.length : Int) == (ys.length : Int)) = true := by simp [hlen]
          simp only [sSeq_ap, sIf_ap, sRet_ap, sExp_ap, sNil_ap, sPar_ap, sPar3_ap, sAsg_ap, gN_ap, sFor_ap, dC_ap, dVar0, dVarS, set0, setS, dOp_ap, dOp1_ap, dTst_ap, isB_bl, dChain_ap, tAndD_ap, tOrD_ap, tNotD_ap, dAnd_ap, dOr_ap, dNot_ap, dIf_ap, aNil_ap, aCons_ap, dTup_ap, dLst_ap, dNew_ap, dB_ap, dM_ap, dMK_ap, dFn_ap, dSl_ap, dRev_ap, dDS_ap, dDct_ap, dDGet_ap, dOpN_ap, dLenSet_ap, dTupRg_ap, dListRg_ap, oNone_ap, oSome_ap, iSeq_ap, iA_ap, dComp_ap, dCompNew_ap, bind_ok, toF_ok, seq_nx, seq_rt, lift_s, mGo_s, if_t, if_f, if_true, if_false, Bool.false_eq_true, reduceCtorEq, hs1, sort_ok s hk', neO_int, BEq.rfl, Bool.not_true, eqO_int, h6, List.length, Nat.reduceAdd, Nat.reduceLeDiff, hin, lenD_tup, hl1, zipA2_tup, hq, Nat.zero_le, ones_eqO s xs ys hlen, hx, tup_dec]
        · have hl1 : ((xs.length : Int) == (ys.length : Int)) = false := by simp; omega
          simp only [sSeq_ap, sIf_ap, sRet_ap, sExp_ap, sNil_ap, sPar_ap, sPar3_ap, sAsg_ap, gN_ap, sFor_ap, dC_ap, dVar0, dVarS, set0, setS, dOp_ap, dOp1_ap, dTst_ap, isB_bl, dChain_ap, tAndD_ap, tOrD_ap, tNotD_ap, dAnd_ap, dOr_ap, dNot_ap, dIf_ap, aNil_ap, aCons_ap, dTup_ap, dLst_ap, dNew_ap, dB_ap, dM_ap, dMK_ap, dFn_ap, dSl_ap, dRev_ap, dDS_ap, dDct_ap, dDGet_ap, dOpN_ap, dLenSet_ap, dTupRg_ap, dListRg_ap, oNone_ap, oSome_ap, iSeq_ap, iA_ap, dComp_ap, dCompNew_ap, bind_ok, toF_ok, seq_nx, seq_rt, lift_s, mGo_s, if_t, if_f, if_true, if_false, Bool.false_eq_true, reduceCtorEq, hs1, sort_ok s hk', neO_int, BEq.rfl, Bool.not_true, eqO_int, h6, List.length, Nat.reduceAdd, Nat.reduceLeDiff, hin, lenD_tup, hl1, hx]
          rw [decide_eq_false fun h => hlen (by injection h with h; rw [h])]
      · have hs1 := sort_ok s hk
        cases hk
        obtain ⟨ys, rfl⟩ := kind_lst hk'
        obtain ⟨h3, h4⟩ := lk_lst he
        have hin := in45 (s := s) (k := 5) (b := true) rfl
        have hq := like_seq s (d0 := some (.lst xs)) (d1 := some (.lst ys)) (k := some (.int 5)) (g := []) rfl xs ys h1 h3 h2 h4 ih
        by_cases hlen : xs.length = ys.length
        · have hl1 : ((xs.length : Int) == (ys.length : Int)) = true := by simp [hlen]
          simp only [sSeq_ap, sIf_ap, sRet_ap, sExp_ap, sNil_ap, sPar_ap, sPar3_ap, sAsg_ap, gN_ap, sFor_ap, dC_ap, dVar0, dVarS, set0, setS, dOp_ap, dOp1_ap, dTst_ap, isB_bl, dChain_ap, tAndD_ap, tOrD_ap, tNotD_ap, dAnd_ap, dOr_ap, dNot_ap, dIf_ap, aNil_ap, aCons_ap, dTup_ap, dLst_ap, dNew_ap, dB_ap, dM_ap, dMK_ap, dFn_ap, dSl_ap, dRev_ap, dDS_ap, dDct_ap, dDGet_ap, dOpN_ap, dLenSet_ap, dTupRg_ap, dListRg_ap, oNone_ap, oSome_ap, iSeq_ap, iA_ap, dComp_ap, dCompNew_ap, bind_ok, toF_ok, seq_nx, seq_rt, lift_s, mGo_s, if_t, if_f, if_true, if_false, Bool.false_eq_true, reduceCtorEq, hs1, sort_ok s hk', neO_int, BEq.rfl, Bool.not_true, eqO_int, h6, List.length, Nat.reduceAdd, Nat.reduceLeDiff, hin, lenD_lst, hl1, zipA2_lst, hq, Nat.zero_le, ones_eqO s xs ys hlen, hx, lst_dec]
        · have hl1 : ((xs.length : Int) == (ys.length : Int)) = false := by simp; omega
          simp only [sSeq_ap, sIf_ap, sRet_ap, sExp_ap, sNil_ap, sPar_ap, sPar3_ap, sAsg_ap, gN_ap, sFor_ap, dC_ap, dVar0, dVarS, set0, setS, dOp_ap, dOp1_ap, dTst_ap, isB_bl, dChain_ap, tAndD_ap, tOrD_ap, tNotD_ap, dAnd_ap, dOr_ap, dNot_ap, dIf_ap, aNil_ap, aCons_ap, dTup_ap, dLst_ap, dNew_ap, dB_ap, dM_ap, dMK_ap, dFn_ap, dSl_ap, dRev_ap, dDS_ap, dDct_ap, dDGet_ap, dOpN_ap, dLenSet_ap, dTupRg_ap, dListRg_ap, oNone_ap, oSome_ap, iSeq_ap, iA_ap, dComp_ap, dCompNew_ap, bind_ok, toF_ok, seq_nx, seq_rt, lift_s, mGo_s, if_t, if_f, if_true, if_false, Bool.false_eq_true, reduceCtorEq, hs1, sort_ok s hk', neO_int, BEq.rfl, Bool.not_true, eqO_int, h6, List.length, Nat.reduceAdd, Nat.reduceLeDiff, hin, lenD_lst, hl1, hx]
          rw [decide_eq_false fun h => hlen (by injection h with h; rw [h])]
  · have hne : (k == k') = false := by simpa using hkk
    have hne2 : (k' == k) = false := by simp; exact fun h => hkk h.symm
    simp only [sSeq_ap, sIf_ap, sRet_ap, sExp_ap, sNil_ap, sPar_ap, sPar3_ap, sAsg_ap, gN_ap, sFor_ap, dC_ap, dVar0, dVarS, set0, setS, dOp_ap, dOp1_ap, dTst_ap, isB_bl, dChain_ap, tAndD_ap, tOrD_ap, tNotD_ap, dAnd_ap, dOr_ap, dNot_ap, dIf_ap, aNil_ap, aCons_ap, dTup_ap, dLst_ap, dNew_ap, dB_ap, dM_ap, dMK_ap, dFn_ap, dSl_ap, dRev_ap, dDS_ap, dDct_ap, dDGet_ap, dOpN_ap, dLenSet_ap, dTupRg_ap, dListRg_ap, oNone_ap, oSome_ap, iSeq_ap, iA_ap, dComp_ap, dCompNew_ap, bind_ok, toF_ok, seq_nx, seq_rt, lift_s, mGo_s, if_t, if_f, if_true, if_false, Bool.false_eq_true, reduceCtorEq, sort_ok s hk, sort_ok s hk', neO_int, hne, hne2, Bool.not_false, hx]
    rw [decide_eq_false fun h => by rw [h, hk'] at hk; exact hkk (Option.some.inj hk).symm]
theorem like_ok (s : Sto) : ∀ (n : Nat) (d e : D), lk n d = true → lk n e = true → H__law_like (n + 1) [d, e] s = .ok (.bl (decide (d = e))) s := fun n => by
  induction n with
  | zero => exact fun d e hd he => like_st s 0 d e hd he fun d e h => by simp [lkS] at h
  | succ n ih => exact fun d e hd he => like_st s (n + 1) d e hd he fun d e h1 h2 => ih d e h1 h2
theorem like_b (s : Sto) (a b : Bool) : G__law_like [.bl a, .bl b] s = .ok (.bl (decide (a = b))) s := by
  have := like_ok s 7 (.bl a) (.bl b) rfl rfl
  rw [show G__law_like = H__law_like 8 from rfl, this]
  simp
theorem like_same {d : D} (h : lk 7 d = true) (s : Sto) : G__law_like [d, d] s = .ok (.bl true) s := by
  rw [show G__law_like = H__law_like 8 from rfl, like_ok s 7 d d h h]
  simp
/-! ### words, tuples, names of the program -/
theorem word_ok {v : D} {n : Nat} {signs : List Nat} {lo hi : Int} (hv : lk n v = true) (s : Sto) : G_is_word [v, .str signs, .int lo, .int hi] s = .ok (.bl (wordB v signs lo hi)) s := by
  obtain ⟨k, hk⟩ := lk_kind hv
  unfold G_is_word
  rw [runB_ap 4 5 _ _ _ rfl]
  unfold B_is_word
  simp only [startD, List.map, List.replicate, List.length, Nat.reduceSub, Nat.reduceAdd, List.cons_append, List.nil_append, sSeq_ap, sIf_ap, sRet_ap, sExp_ap, sNil_ap, sPar_ap, sPar3_ap, sAsg_ap, gN_ap, sFor_ap, dC_ap, dVar0, dVarS, set0, setS, dOp_ap, dOp1_ap, dTst_ap, isB_bl, dChain_ap, tAndD_ap, tOrD_ap, tNotD_ap, dAnd_ap, dOr_ap, dNot_ap, dIf_ap, aNil_ap, aCons_ap, dTup_ap, dLst_ap, dNew_ap, dB_ap, dM_ap, dMK_ap, dFn_ap, dSl_ap, dRev_ap, dDS_ap, dDct_ap, dDGet_ap, dOpN_ap, dLenSet_ap, dTupRg_ap, dListRg_ap, oNone_ap, oSome_ap, iSeq_ap, iA_ap, dComp_ap, dCompNew_ap, bind_ok, toF_ok, seq_nx, seq_rt, lift_s, mGo_s, if_t, if_f, if_true, if_false, Bool.false_eq_true, reduceCtorEq, (isi_of s hk).2]
  cases v with
  | str a =>
    cases hk
    have hl : a.length ≤ 65536 := by cases n <;> simpa [lk] using hv
    simp only [show ((3 : Int) == 3) = true from rfl, sSeq_ap, sIf_ap, sRet_ap, sExp_ap, sNil_ap, sPar_ap, sPar3_ap, sAsg_ap, gN_ap, sFor_ap, dC_ap, dVar0, dVarS, set0, setS, dOp_ap, dOp1_ap, dTst_ap, isB_bl, dChain_ap, tAndD_ap, tOrD_ap, tNotD_ap, dAnd_ap, dOr_ap, dNot_ap, dIf_ap, aNil_ap, aCons_ap, dTup_ap, dLst_ap, dNew_ap, dB_ap, dM_ap, dMK_ap, dFn_ap, dSl_ap, dRev_ap, dDS_ap, dDct_ap, dDGet_ap, dOpN_ap, dLenSet_ap, dTupRg_ap, dListRg_ap, oNone_ap, oSome_ap, iSeq_ap, iA_ap, dComp_ap, dCompNew_ap, bind_ok, toF_ok, seq_nx, seq_rt, lift_s, mGo_s, if_t, if_f, if_true, if_false, Bool.false_eq_true, reduceCtorEq, lenD_str, leO, wordB]
    by_cases h1 : lo ≤ (a.length : Int)
    · simp only [decide_eq_true h1, sSeq_ap, sIf_ap, sRet_ap, sExp_ap, sNil_ap, sPar_ap, sPar3_ap, sAsg_ap, gN_ap, sFor_ap, dC_ap, dVar0, dVarS, set0, setS, dOp_ap, dOp1_ap, dTst_ap, isB_bl, dChain_ap, tAndD_ap, tOrD_ap, tNotD_ap, dAnd_ap, dOr_ap, dNot_ap, dIf_ap, aNil_ap, aCons_ap, dTup_ap, dLst_ap, dNew_ap, dB_ap, dM_ap, dMK_ap, dFn_ap, dSl_ap, dRev_ap, dDS_ap, dDct_ap, dDGet_ap, dOpN_ap, dLenSet_ap, dTupRg_ap, dListRg_ap, oNone_ap, oSome_ap, iSeq_ap, iA_ap, dComp_ap, dCompNew_ap, bind_ok, toF_ok, seq_nx, seq_rt, lift_s, mGo_s, if_t, if_f, if_true, if_false, Bool.false_eq_true, reduceCtorEq, Bool.true_and]
      by_cases h2 : (a.length : Int) ≤ hi
      · simp only [decide_eq_true h2, sSeq_ap, sIf_ap, sRet_ap, sExp_ap, sNil_ap, sPar_ap, sPar3_ap, sAsg_ap, gN_ap, sFor_ap, dC_ap, dVar0, dVarS, set0, setS, dOp_ap, dOp1_ap, dTst_ap, isB_bl, dChain_ap, tAndD_ap, tOrD_ap, tNotD_ap, dAnd_ap, dOr_ap, dNot_ap, dIf_ap, aNil_ap, aCons_ap, dTup_ap, dLst_ap, dNew_ap, dB_ap, dM_ap, dMK_ap, dFn_ap, dSl_ap, dRev_ap, dDS_ap, dDct_ap, dDGet_ap, dOpN_ap, dLenSet_ap, dTupRg_ap, dListRg_ap, oNone_ap, oSome_ap, iSeq_ap, iA_ap, dComp_ap, dCompNew_ap, bind_ok, toF_ok, seq_nx, seq_rt, lift_s, mGo_s, if_t, if_f, if_true, if_false, Bool.false_eq_true, reduceCtorEq, Bool.true_and, itemsD, List.map_map]
        rw [cmp_all (h := fun d => .bl (decide ((match d with | .str [c] => c | _ => 0) ∈ signs))) rfl _ (fun d hd => by
          obtain ⟨c, hc, rfl⟩ := List.mem_map.mp hd
          exact ⟨_, rfl, rfl⟩) (by rw [List.length_map]; omega)]
        rw [List.map_map]
        simp only [sSeq_ap, sIf_ap, sRet_ap, sExp_ap, sNil_ap, sPar_ap, sPar3_ap, sAsg_ap, gN_ap, sFor_ap, dC_ap, dVar0, dVarS, set0, setS, dOp_ap, dOp1_ap, dTst_ap, isB_bl, dChain_ap, tAndD_ap, tOrD_ap, tNotD_ap, dAnd_ap, dOr_ap, dNot_ap, dIf_ap, aNil_ap, aCons_ap, dTup_ap, dLst_ap, dNew_ap, dB_ap, dM_ap, dMK_ap, dFn_ap, dSl_ap, dRev_ap, dDS_ap, dDct_ap, dDGet_ap, dOpN_ap, dLenSet_ap, dTupRg_ap, dListRg_ap, oNone_ap, oSome_ap, iSeq_ap, iA_ap, dComp_ap, dCompNew_ap, bind_ok, toF_ok, seq_nx, seq_rt, lift_s, mGo_s, if_t, if_f, if_true, if_false, Bool.false_eq_true, reduceCtorEq]
        rw [show (allD [.lst (a.map ((fun d => D.bl (decide ((match d with | .str [c] => c | _ => 0) ∈ signs))) ∘ fun c => D.str [c]))] s) = some (.bl (a.all fun c => decide (c ∈ signs))) from allD_bl (fun c => decide (c ∈ signs)) a s]
        exact exB _ _
      · simp only [decide_eq_false h2, sSeq_ap, sIf_ap, sRet_ap, sExp_ap, sNil_ap, sPar_ap, sPar3_ap, sAsg_ap, gN_ap, sFor_ap, dC_ap, dVar0, dVarS, set0, setS, dOp_ap, dOp1_ap, dTst_ap, isB_bl, dChain_ap, tAndD_ap, tOrD_ap, tNotD_ap, dAnd_ap, dOr_ap, dNot_ap, dIf_ap, aNil_ap, aCons_ap, dTup_ap, dLst_ap, dNew_ap, dB_ap, dM_ap, dMK_ap, dFn_ap, dSl_ap, dRev_ap, dDS_ap, dDct_ap, dDGet_ap, dOpN_ap, dLenSet_ap, dTupRg_ap, dListRg_ap, oNone_ap, oSome_ap, iSeq_ap, iA_ap, dComp_ap, dCompNew_ap, bind_ok, toF_ok, seq_nx, seq_rt, lift_s, mGo_s, if_t, if_f, if_true, if_false, Bool.false_eq_true, reduceCtorEq, Bool.false_and]
        exact exB _ _
    · simp only [decide_eq_false h1, sSeq_ap, sIf_ap, sRet_ap, sExp_ap, sNil_ap, sPar_ap, sPar3_ap, sAsg_ap, gN_ap, sFor_ap, dC_ap, dVar0, dVarS, set0, setS, dOp_ap, dOp1_ap, dTst_ap, isB_bl, dChain_ap, tAndD_ap, tOrD_ap, tNotD_ap, dAnd_ap, dOr_ap, dNot_ap, dIf_ap, aNil_ap, aCons_ap, dTup_ap, dLst_ap, dNew_ap, dB_ap, dM_ap, dMK_ap, dFn_ap, dSl_ap, dRev_ap, dDS_ap, dDct_ap, dDGet_ap, dOpN_ap, dLenSet_ap, dTupRg_ap, dListRg_ap, oNone_ap, oSome_ap, iSeq_ap, iA_ap, dComp_ap, dCompNew_ap, bind_ok, toF_ok, seq_nx, seq_rt, lift_s, mGo_s, if_t, if_f, if_true, if_false, Bool.false_eq_true, reduceCtorEq, Bool.false_and]
      exact exB _ _
  | _ => cases hk <;> exact exB _ _
theorem tuple_ok {v : D} {n : Nat} {lo hi : Int} (hv : lk n v = true) (s : Sto) : G_is_tuple_of [v, .int lo, .int hi] s = .ok (.bl (match v with
    | .tup xs => decide (lo ≤ xs.length) && decide ((xs.length : Int) ≤ hi)
    | _ => false)) s := by
  obtain ⟨k, hk⟩ := lk_kind hv
  unfold G_is_tuple_of
  rw [runB_ap 3 3 _ _ _ rfl]
  unfold B_is_tuple_of
  simp only [startD, List.map, List.replicate, List.length, Nat.reduceSub, Nat.reduceAdd, List.cons_append, List.nil_append, List.append_nil, sSeq_ap, sIf_ap, sRet_ap, sExp_ap, sNil_ap, sPar_ap, sPar3_ap, sAsg_ap, gN_ap, sFor_ap, dC_ap, dVar0, dVarS, set0, setS, dOp_ap, dOp1_ap, dTst_ap, isB_bl, dChain_ap, tAndD_ap, tOrD_ap, tNotD_ap, dAnd_ap, dOr_ap, dNot_ap, dIf_ap, aNil_ap, aCons_ap, dTup_ap, dLst_ap, dNew_ap, dB_ap, dM_ap, dMK_ap, dFn_ap, dSl_ap, dRev_ap, dDS_ap, dDct_ap, dDGet_ap, dOpN_ap, dLenSet_ap, dTupRg_ap, dListRg_ap, oNone_ap, oSome_ap, iSeq_ap, iA_ap, dComp_ap, dCompNew_ap, bind_ok, toF_ok, seq_nx, seq_rt, lift_s, mGo_s, if_t, if_f, if_true, if_false, Bool.false_eq_true, reduceCtorEq, (isi_of s hk).1]
  cases v with
  | tup xs =>
    cases hk
    simp only [show ((4 : Int) == 4) = true from rfl, sSeq_ap, sIf_ap, sRet_ap, sExp_ap, sNil_ap, sPar_ap, sPar3_ap, sAsg_ap, gN_ap, sFor_ap, dC_ap, dVar0, dVarS, set0, setS, dOp_ap, dOp1_ap, dTst_ap, isB_bl, dChain_ap, tAndD_ap, tOrD_ap, tNotD_ap, dAnd_ap, dOr_ap, dNot_ap, dIf_ap, aNil_ap, aCons_ap, dTup_ap, dLst_ap, dNew_ap, dB_ap, dM_ap, dMK_ap, dFn_ap, dSl_ap, dRev_ap, dDS_ap, dDct_ap, dDGet_ap, dOpN_ap, dLenSet_ap, dTupRg_ap, dListRg_ap, oNone_ap, oSome_ap, iSeq_ap, iA_ap, dComp_ap, dCompNew_ap, bind_ok, toF_ok, seq_nx, seq_rt, lift_s, mGo_s, if_t, if_f, if_true, if_false, Bool.false_eq_true, reduceCtorEq, lenD_tup, leO]
    by_cases h1 : lo ≤ (xs.length : Int)
    · simp only [decide_eq_true h1, sSeq_ap, sIf_ap, sRet_ap, sExp_ap, sNil_ap, sPar_ap, sPar3_ap, sAsg_ap, gN_ap, sFor_ap, dC_ap, dVar0, dVarS, set0, setS, dOp_ap, dOp1_ap, dTst_ap, isB_bl, dChain_ap, tAndD_ap, tOrD_ap, tNotD_ap, dAnd_ap, dOr_ap, dNot_ap, dIf_ap, aNil_ap, aCons_ap, dTup_ap, dLst_ap, dNew_ap, dB_ap, dM_ap, dMK_ap, dFn_ap, dSl_ap, dRev_ap, dDS_ap, dDct_ap, dDGet_ap, dOpN_ap, dLenSet_ap, dTupRg_ap, dListRg_ap, oNone_ap, oSome_ap, iSeq_ap, iA_ap, dComp_ap, dCompNew_ap, bind_ok, toF_ok, seq_nx, seq_rt, lift_s, mGo_s, if_t, if_f, if_true, if_false, Bool.false_eq_true, reduceCtorEq, Bool.true_and]
      exact exB _ _
    · simp only [decide_eq_false h1, sSeq_ap, sIf_ap, sRet_ap, sExp_ap, sNil_ap, sPar_ap, sPar3_ap, sAsg_ap, gN_ap, sFor_ap, dC_ap, dVar0, dVarS, set0, setS, dOp_ap, dOp1_ap, dTst_ap, isB_bl, dChain_ap, tAndD_ap, tOrD_ap, tNotD_ap, dAnd_ap, dOr_ap, dNot_ap, dIf_ap, aNil_ap, aCons_ap, dTup_ap, dLst_ap, dNew_ap, dB_ap, dM_ap, dMK_ap, dFn_ap, dSl_ap, dRev_ap, dDS_ap, dDct_ap, dDGet_ap, dOpN_ap, dLenSet_ap, dTupRg_ap, dListRg_ap, oNone_ap, oSome_ap, iSeq_ap, iA_ap, dComp_ap, dCompNew_ap, bind_ok, toF_ok, seq_nx, seq_rt, lift_s, mGo_s, if_t, if_f, if_true, if_false, Bool.false_eq_true, reduceCtorEq, Bool.false_and]
      exact exB _ _
  | _ => cases hk <;> exact exB _ _
def wholeB (v : D) (lo hi : Int) : Bool := match v with
  | .int i => decide (lo ≤ i) && decide (i ≤ hi)
  | _ => false
theorem whole_ok {v : D} {n : Nat} {lo hi : Int} (hv : lk n v = true) (s : Sto) : G_is_whole [v, .int lo, .int hi] s = .ok (.bl (wholeB v lo hi)) s := by
  unfold G_is_whole
  rw [runB_ap 3 3 _ _ _ rfl]
  unfold B_is_whole
  simp only [startD, List.map, List.replicate, List.length, Nat.reduceSub, Nat.reduceAdd, List.cons_append, List.nil_append, List.append_nil]
  cases v with
  | int i =>
    simp only [sSeq_ap, sIf_ap, sRet_ap, sExp_ap, sNil_ap, sPar_ap, sPar3_ap, sAsg_ap, gN_ap, sFor_ap, dC_ap, dVar0, dVarS, set0, setS, dOp_ap, dOp1_ap, dTst_ap, isB_bl, dChain_ap, tAndD_ap, tOrD_ap, tNotD_ap, dAnd_ap, dOr_ap, dNot_ap, dIf_ap, aNil_ap, aCons_ap, dTup_ap, dLst_ap, dNew_ap, dB_ap, dM_ap, dMK_ap, dFn_ap, dSl_ap, dRev_ap, dDS_ap, dDct_ap, dDGet_ap, dOpN_ap, dLenSet_ap, dTupRg_ap, dListRg_ap, oNone_ap, oSome_ap, iSeq_ap, iA_ap, dComp_ap, dCompNew_ap, bind_ok, toF_ok, seq_nx, seq_rt, lift_s, mGo_s, if_t, if_f, if_true, if_false, Bool.false_eq_true, reduceCtorEq, isiD, tyN, isiT_1, isiT_2, Option.map_some, isiB_tab, Bool.not_false, leO, wholeB]
    by_cases h1 : lo ≤ i
    · simp only [decide_eq_true h1, sSeq_ap, sIf_ap, sRet_ap, sExp_ap, sNil_ap, sPar_ap, sPar3_ap, sAsg_ap, gN_ap, sFor_ap, dC_ap, dVar0, dVarS, set0, setS, dOp_ap, dOp1_ap, dTst_ap, isB_bl, dChain_ap, tAndD_ap, tOrD_ap, tNotD_ap, dAnd_ap, dOr_ap, dNot_ap, dIf_ap, aNil_ap, aCons_ap, dTup_ap, dLst_ap, dNew_ap, dB_ap, dM_ap, dMK_ap, dFn_ap, dSl_ap, dRev_ap, dDS_ap, dDct_ap, dDGet_ap, dOpN_ap, dLenSet_ap, dTupRg_ap, dListRg_ap, oNone_ap, oSome_ap, iSeq_ap, iA_ap, dComp_ap, dCompNew_ap, bind_ok, toF_ok, seq_nx, seq_rt, lift_s, mGo_s, if_t, if_f, if_true, if_false, Bool.false_eq_true, reduceCtorEq, Bool.true_and]; exact exB _ _
    · simp only [decide_eq_false h1, sSeq_ap, sIf_ap, sRet_ap, sExp_ap, sNil_ap, sPar_ap, sPar3_ap, sAsg_ap, gN_ap, sFor_ap, dC_ap, dVar0, dVarS, set0, setS, dOp_ap, dOp1_ap, dTst_ap, isB_bl, dChain_ap, tAndD_ap, tOrD_ap, tNotD_ap, dAnd_ap, dOr_ap, dNot_ap, dIf_ap, aNil_ap, aCons_ap, dTup_ap, dLst_ap, dNew_ap, dB_ap, dM_ap, dMK_ap, dFn_ap, dSl_ap, dRev_ap, dDS_ap, dDct_ap, dDGet_ap, dOpN_ap, dLenSet_ap, dTupRg_ap, dListRg_ap, oNone_ap, oSome_ap, iSeq_ap, iA_ap, dComp_ap, dCompNew_ap, bind_ok, toF_ok, seq_nx, seq_rt, lift_s, mGo_s, if_t, if_f, if_true, if_false, Bool.false_eq_true, reduceCtorEq, Bool.false_and]; exact exB _ _
  | bl b => simp only [sSeq_ap, sIf_ap, sRet_ap, sExp_ap, sNil_ap, sPar_ap, sPar3_ap, sAsg_ap, gN_ap, sFor_ap, dC_ap, dVar0, dVarS, set0, setS, dOp_ap, dOp1_ap, dTst_ap, isB_bl, dChain_ap, tAndD_ap, tOrD_ap, tNotD_ap, dAnd_ap, dOr_ap, dNot_ap, dIf_ap, aNil_ap, aCons_ap, dTup_ap, dLst_ap, dNew_ap, dB_ap, dM_ap, dMK_ap, dFn_ap, dSl_ap, dRev_ap, dDS_ap, dDct_ap, dDGet_ap, dOpN_ap, dLenSet_ap, dTupRg_ap, dListRg_ap, oNone_ap, oSome_ap, iSeq_ap, iA_ap, dComp_ap, dCompNew_ap, bind_ok, toF_ok, seq_nx, seq_rt, lift_s, mGo_s, if_t, if_f, if_true, if_false, Bool.false_eq_true, reduceCtorEq, isiD, tyN, isiT_1, isiT_2, Option.map_some, isiB_tab, Bool.not_true]; exact exB _ _
  | non => simp only [sSeq_ap, sIf_ap, sRet_ap, sExp_ap, sNil_ap, sPar_ap, sPar3_ap, sAsg_ap, gN_ap, sFor_ap, dC_ap, dVar0, dVarS, set0, setS, dOp_ap, dOp1_ap, dTst_ap, isB_bl, dChain_ap, tAndD_ap, tOrD_ap, tNotD_ap, dAnd_ap, dOr_ap, dNot_ap, dIf_ap, aNil_ap, aCons_ap, dTup_ap, dLst_ap, dNew_ap, dB_ap, dM_ap, dMK_ap, dFn_ap, dSl_ap, dRev_ap, dDS_ap, dDct_ap, dDGet_ap, dOpN_ap, dLenSet_ap, dTupRg_ap, dListRg_ap, oNone_ap, oSome_ap, iSeq_ap, iA_ap, dComp_ap, dCompNew_ap, bind_ok, toF_ok, seq_nx, seq_rt, lift_s, mGo_s, if_t, if_f, if_true, if_false, Bool.false_eq_true, reduceCtorEq, isiD, tyN, isiT_2, Option.map_some, isiB_tab]; exact exB _ _
  | str a => simp only [sSeq_ap, sIf_ap, sRet_ap, sExp_ap, sNil_ap, sPar_ap, sPar3_ap, sAsg_ap, gN_ap, sFor_ap, dC_ap, dVar0, dVarS, set0, setS, dOp_ap, dOp1_ap, dTst_ap, isB_bl, dChain_ap, tAndD_ap, tOrD_ap, tNotD_ap, dAnd_ap, dOr_ap, dNot_ap, dIf_ap, aNil_ap, aCons_ap, dTup_ap, dLst_ap, dNew_ap, dB_ap, dM_ap, dMK_ap, dFn_ap, dSl_ap, dRev_ap, dDS_ap, dDct_ap, dDGet_ap, dOpN_ap, dLenSet_ap, dTupRg_ap, dListRg_ap, oNone_ap, oSome_ap, iSeq_ap, iA_ap, dComp_ap, dCompNew_ap, bind_ok, toF_ok, seq_nx, seq_rt, lift_s, mGo_s, if_t, if_f, if_true, if_false, Bool.false_eq_true, reduceCtorEq, isiD, tyN, isiT_2, Option.map_some, isiB_tab]; exact exB _ _
  | tup a => simp only [sSeq_ap, sIf_ap, sRet_ap, sExp_ap, sNil_ap, sPar_ap, sPar3_ap, sAsg_ap, gN_ap, sFor_ap, dC_ap, dVar0, dVarS, set0, setS, dOp_ap, dOp1_ap, dTst_ap, isB_bl, dChain_ap, tAndD_ap, tOrD_ap, tNotD_ap, dAnd_ap, dOr_ap, dNot_ap, dIf_ap, aNil_ap, aCons_ap, dTup_ap, dLst_ap, dNew_ap, dB_ap, dM_ap, dMK_ap, dFn_ap, dSl_ap, dRev_ap, dDS_ap, dDct_ap, dDGet_ap, dOpN_ap, dLenSet_ap, dTupRg_ap, dListRg_ap, oNone_ap, oSome_ap, iSeq_ap, iA_ap, dComp_ap, dCompNew_ap, bind_ok, toF_ok, seq_nx, seq_rt, lift_s, mGo_s, if_t, if_f, if_true, if_false, Bool.false_eq_true, reduceCtorEq, isiD, tyN, isiT_2, Option.map_some, isiB_tab]; exact exB _ _
  | lst a => simp only [sSeq_ap, sIf_ap, sRet_ap, sExp_ap, sNil_ap, sPar_ap, sPar3_ap, sAsg_ap, gN_ap, sFor_ap, dC_ap, dVar0, dVarS, set0, setS, dOp_ap, dOp1_ap, dTst_ap, isB_bl, dChain_ap, tAndD_ap, tOrD_ap, tNotD_ap, dAnd_ap, dOr_ap, dNot_ap, dIf_ap, aNil_ap, aCons_ap, dTup_ap, dLst_ap, dNew_ap, dB_ap, dM_ap, dMK_ap, dFn_ap, dSl_ap, dRev_ap, dDS_ap, dDct_ap, dDGet_ap, dOpN_ap, dLenSet_ap, dTupRg_ap, dListRg_ap, oNone_ap, oSome_ap, iSeq_ap, iA_ap, dComp_ap, dCompNew_ap, bind_ok, toF_ok, seq_nx, seq_rt, lift_s, mGo_s, if_t, if_f, if_true, if_false, Bool.false_eq_true, reduceCtorEq, isiD, tyN, isiT_2, Option.map_some, isiB_tab]; exact exB _ _
  | _ => cases n <;> simp [lk] at hv
/-! ### a drawn cloth -/
/-- rows of "#" and ".", all of w signs -/
def Rows (w : Nat) (xs : List D) : Prop := ∀ x ∈ xs, ∃ r, x = .str r ∧ r.length = w ∧ ∀ c ∈ r, c = 35 ∨ c = 46
theorem Rows.lk {w : Nat} {xs : List D} (h : Rows w xs) (hw : w ≤ 12) : ∀ x ∈ xs, Z.lk 0 x = true := fun x hx => by
  obtain ⟨r, rfl, hl, _⟩ := h x hx
  simp [Z.lk]
  omega
/-- one sign -/
def Sgn (d : D) : Prop := d = .str [35] ∨ d = .str [46]
theorem sgn_some {a b : Int} {t : Sto} {xs : List D} (h : Ck a b) (ht : Tk t) (hn : xs ≠ []) (hl : xs.length < 1073741824) (hx : ∀ x ∈ xs, Sgn x) : ∃ d a' b', G__law_some [.obj 0, .lst xs] (cupO a b :: t) = .ok d (cupO a' b' :: t) ∧ Ck a' b' ∧ Sgn d := by
  obtain ⟨d, a', b', e, k, hd⟩ := some_lst h ht hn hl (fun x h => by rcases hx x h with rfl | rfl <;> rfl)
  exact ⟨d, a', b', e, k, hx d hd⟩
theorem sgn2 : ∀ x ∈ [D.str [35], D.str [46]], Sgn x := fun x hx => by simpa [Sgn] using hx
theorem sgn3 : ∀ x ∈ [D.str [35], D.str [46], D.str [46]], Sgn x := fun x hx => by simpa [Sgn] using hx
theorem cloth_draw {a b : Int} {t : Sto} {p e : Int} (h : Ck a b) (ht : Tk t) (hp : 1 ≤ p) (hp2 : p ≤ 12) (he : 1 ≤ e) (he2 : e ≤ 12) : ∃ (xs : List D) (a' b' : Int) (w : Nat), G__law_cloth [.obj 0, .int p, .int e] (cupO a b :: t) = .ok (.tup xs) (cupO a' b' :: t) ∧ Ck a' b' ∧ (1 ≤ xs.length ∧ (xs.length : Int) ≤ p) ∧ (1 ≤ w ∧ (w : Int) ≤ e) ∧ Rows w xs := by
  obtain ⟨r1, a1, b1, e1, k1, l1, u1⟩ := roll h ht hp (by omega)
  obtain ⟨r2, a2, b2, e2, k2, l2, u2⟩ := roll k1 ht he (by omega)
  obtain ⟨way, a3, b3, e3, k3, l3, u3⟩ := roll k2 ht (m := 4) (by omega) (by omega)
  have ht2 : Tk (t ++ [.lst []]) := Tk_app (n := 0) ht (fun _ h => nomatch h)
  obtain ⟨many, hmany⟩ : ∃ n : Nat, 1 + r1 = (n : Int) := ⟨(1 + r1).toNat, by omega⟩
  obtain ⟨wide, hwide⟩ : ∃ n : Nat, 1 + r2 = (n : Int) := ⟨(1 + r2).toNat, by omega⟩
  unfold G__law_cloth
  rw [runB_ap 3 15 _ _ _ rfl]
  unfold B__law_cloth
  simp only [startD, List.map, List.replicate, Nat.reduceSub, Nat.reduceAdd, List.length, List.cons_append, List.nil_append, List.append_nil, sSeq_ap, sIf_ap, sRet_ap, sExp_ap, sNil_ap, sPar_ap, sPar3_ap, sAsg_ap, gN_ap, sFor_ap, dC_ap, dVar0, dVarS, set0, setS, dOp_ap, dOp1_ap, dTst_ap, isB_bl, dChain_ap, tAndD_ap, tOrD_ap, tNotD_ap, dAnd_ap, dOr_ap, dNot_ap, dIf_ap, aNil_ap, aCons_ap, dTup_ap, dLst_ap, dNew_ap, dB_ap, dM_ap, dMK_ap, dFn_ap, dSl_ap, dRev_ap, dDS_ap, dDct_ap, dDGet_ap, dOpN_ap, dLenSet_ap, dTupRg_ap, dListRg_ap, oNone_ap, oSome_ap, iSeq_ap, iA_ap, dComp_ap, dCompNew_ap, bind_ok, toF_ok, seq_nx, seq_rt, lift_s, mGo_s, if_t, if_f, if_true, if_false, Bool.false_eq_true, reduceCtorEq, e1, e2, e3, addD_int, hmany, hwide, Nat.zero_le, rng1 (j := 5) _ (by omega) (by omega)]
  -- five signs
  obtain ⟨rep, s4, e4, ⟨a4, b4, k4, rfl⟩, hr4, hs4⟩ := cmp_inv (t := gN 14) (elt := E1__law_cloth) (g := [])
    (ρ := wipeD [some (.obj 0), some (.int p), some (.int e), some (.int many), some (.int wide), some (.int way), some (.obj (t.length + 1)), none, none, none, none, none, none, none, none] [14])
    (fun s => ∃ a b, Ck a b ∧ s = cupO a b :: (t ++ [.lst []])) Sgn (fun _ _ => rfl) ((List.range (5 : Int).toNat).map fun (i : Nat) => .int (0 + i)) [] _ ⟨a3, b3, k3, rfl⟩ (fun d hd s ⟨a, b, k, hs⟩ => by
      subst hs
      obtain ⟨x, a', b', e, k', hx⟩ := sgn_some k ht2 (xs := [.str [35], .str [46]]) (by simp) (by simp) sgn2
      exact ⟨_, x, _, rfl, by unfold E1__law_cloth; simp only [sSeq_ap, sIf_ap, sRet_ap, sExp_ap, sNil_ap, sPar_ap, sPar3_ap, sAsg_ap, gN_ap, sFor_ap, dC_ap, dVar0, dVarS, set0, setS, dOp_ap, dOp1_ap, dTst_ap, isB_bl, dChain_ap, tAndD_ap, tOrD_ap, tNotD_ap, dAnd_ap, dOr_ap, dNot_ap, dIf_ap, aNil_ap, aCons_ap, dTup_ap, dLst_ap, dNew_ap, dB_ap, dM_ap, dMK_ap, dFn_ap, dSl_ap, dRev_ap, dDS_ap, dDct_ap, dDGet_ap, dOpN_ap, dLenSet_ap, dTupRg_ap, dListRg_ap, oNone_ap, oSome_ap, iSeq_ap, iA_ap, dComp_ap, dCompNew_ap, bind_ok, toF_ok, seq_nx, seq_rt, lift_s, mGo_s, if_t, if_f, if_true, if_false, Bool.false_eq_true, reduceCtorEq, wipeD, List.length, Nat.reduceAdd, Nat.reduceLeDiff, e], ⟨a', b', k', rfl⟩, hx⟩) (by simp)
  rw [e4]
  obtain ⟨step, a5, b5, e5, k5, l5, u5⟩ := roll k4 ht2 (m := 5) (by omega) (by omega)
  obtain ⟨cut, a6, b6, e6, k6, l6, u6⟩ := roll k5 ht2 (m := (wide : Int) + 1) (by omega) (by omega)
  simp only [sSeq_ap, sIf_ap, sRet_ap, sExp_ap, sNil_ap, sPar_ap, sPar3_ap, sAsg_ap, gN_ap, sFor_ap, dC_ap, dVar0, dVarS, set0, setS, dOp_ap, dOp1_ap, dTst_ap, isB_bl, dChain_ap, tAndD_ap, tOrD_ap, tNotD_ap, dAnd_ap, dOr_ap, dNot_ap, dIf_ap, aNil_ap, aCons_ap, dTup_ap, dLst_ap, dNew_ap, dB_ap, dM_ap, dMK_ap, dFn_ap, dSl_ap, dRev_ap, dDS_ap, dDct_ap, dDGet_ap, dOpN_ap, dLenSet_ap, dTupRg_ap, dListRg_ap, oNone_ap, oSome_ap, iSeq_ap, iA_ap, dComp_ap, dCompNew_ap, bind_ok, toF_ok, seq_nx, seq_rt, lift_s, mGo_s, if_t, if_f, if_true, if_false, Bool.false_eq_true, reduceCtorEq, List.nil_append, e5, addD_int, e6, rng1 (j := (many : Int)) _ (by omega) (by omega)]
  -- the rows
  obtain ⟨ρ', s7, e7, ⟨a7, b7, xs, k7, rfl, hl7, hx7, hρ⟩⟩ := for_inv (t := gN 10) (body := L2__law_cloth) (g := [])
    (fun i ρ s => ∃ a b xs, Ck a b ∧ s = cupO a b :: (t ++ [.lst xs]) ∧ xs.length = i ∧ Rows wide xs ∧ ∃ v10 v11 v12 v13, ρ = [some (.obj 0), some (.int p), some (.int e), some (.int many), some (.int wide), some (.int way), some (.obj (t.length + 1)), some (.lst rep), some (.int step), some (.int cut), v10, v11, v12, v13, none])
    (fun _ _ _ _ => rfl) ((List.range (many : Int).toNat).map fun (i : Nat) => .int (0 + i)) _ _ ⟨a6, b6, [], k6, rfl, rfl, (fun _ h => nomatch h), none, none, none, none, rfl⟩ (fun j d hj ρ s ⟨a, b, xs, k, hs, hl, hx, v10, v11, v12, v13, hρ⟩ => by
      subst hs hρ
      obtain ⟨hj, rfl⟩ := rng1_get hj
      refine ⟨_, _, rfl, ?_⟩
      have ht3 : Tk (t ++ [.lst xs]) := Tk_app (n := 0) ht (hx.lk (by omega))
      unfold L2__law_cloth
      simp only [sSeq_ap, sIf_ap, sRet_ap, sExp_ap, sNil_ap, sPar_ap, sPar3_ap, sAsg_ap, gN_ap, sFor_ap, dC_ap, dVar0, dVarS, set0, setS, dOp_ap, dOp1_ap, dTst_ap, isB_bl, dChain_ap, tAndD_ap, tOrD_ap, tNotD_ap, dAnd_ap, dOr_ap, dNot_ap, dIf_ap, aNil_ap, aCons_ap, dTup_ap, dLst_ap, dNew_ap, dB_ap, dM_ap, dMK_ap, dFn_ap, dSl_ap, dRev_ap, dDS_ap, dDct_ap, dDGet_ap, dOpN_ap, dLenSet_ap, dTupRg_ap, dListRg_ap, oNone_ap, oSome_ap, iSeq_ap, iA_ap, dComp_ap, dCompNew_ap, bind_ok, toF_ok, seq_nx, seq_rt, lift_s, mGo_s, if_t, if_f, if_true, if_false, Bool.false_eq_true, reduceCtorEq, rng1 (j := (wide : Int)) _ (show (0 : Int) ≤ wide by omega) (by omega)]
      obtain ⟨ρ', s8, e8, ⟨a8, b8, row, k8, rfl, hl8, hx8, w12, w13, rfl⟩⟩ := for_inv (t := gN 12) (g := [])
        (body := L1__law_cloth)
        (fun i ρ s => ∃ a b row, Ck a b ∧ s = cupO a b :: (t ++ [.lst xs]) ∧ row.length = i ∧ (∀ c ∈ row, c = 35 ∨ c = 46) ∧ ∃ v12 v13, ρ = [some (.obj 0), some (.int p), some (.int e), some (.int many), some (.int wide), some (.int way), some (.obj (t.length + 1)), some (.lst rep), some (.int step), some (.int cut), some (.int j), some (.str row), v12, v13, none])
        (fun _ _ _ _ => rfl) ((List.range (wide : Int).toNat).map fun (i : Nat) => .int (0 + i)) _ _ ⟨a, b, [], k, rfl, rfl, (fun _ h => nomatch h), v12, v13, rfl⟩ (fun i d hi ρ s ⟨a, b, row, k, hs, hl, hx, v12, v13, hρ⟩ => by
          subst hs hρ
          obtain ⟨hi, rfl⟩ := rng1_get hi
          refine ⟨_, _, rfl, ?_⟩
          -- the sign
          have key : ∃ x a' b', (dIf (dTst (dOp eqO (dVar 5) (dC (.int 1)))) (dOp ixD (dVar 7) (dOp modD (dB intD (aCons (dOp addD (dVar 12) (dOp mulD2 (dVar 8) (dVar 10))) (aNil))) (dC (.int 5)))) (dFn G__law_some (aCons (dVar 0) (aCons (dIf (dTst (dOp eqO (dVar 5) (dC (.int 2)))) (dLst (aCons (dC (.str [35])) (aCons (dC (.str [46])) (aCons (dC (.str [46])) (aNil))))) (dLst (aCons (dC (.str [35])) (aCons (dC (.str [46])) (aNil))))) (aNil))))) ([some (.obj 0), some (.int p), some (.int e), some (.int many), some (.int wide), some (.int way), some (.obj (t.length + 1)), some (.lst rep), some (.int step), some (.int cut), some (.int j), some (.str row), some (.int i), v13, none]) (cupO a b :: (t ++ [.lst xs])) = .ok x (cupO a' b' :: (t ++ [.lst xs])) ∧ Ck a' b' ∧ Sgn x := by
            simp only [sSeq_ap, sIf_ap, sRet_ap, sExp_ap, sNil_ap, sPar_ap, sPar3_ap, sAsg_ap, gN_ap, sFor_ap, dC_ap, dVar0, dVarS, set0, setS, dOp_ap, dOp1_ap, dTst_ap, isB_bl, dChain_ap, tAndD_ap, tOrD_ap, tNotD_ap, dAnd_ap, dOr_ap, dNot_ap, dIf_ap, aNil_ap, aCons_ap, dTup_ap, dLst_ap, dNew_ap, dB_ap, dM_ap, dMK_ap, dFn_ap, dSl_ap, dRev_ap, dDS_ap, dDct_ap, dDGet_ap, dOpN_ap, dLenSet_ap, dTupRg_ap, dListRg_ap, oNone_ap, oSome_ap, iSeq_ap, iA_ap, dComp_ap, dCompNew_ap, bind_ok, toF_ok, seq_nx, seq_rt, lift_s, mGo_s, if_t, if_f, if_true, if_false, Bool.false_eq_true, reduceCtorEq, eqO_int]
            cases hw : (way == 1) with
            | true =>
              have c1 : (c64 step || c64 (j : Int)) = true := by rw [Bool.or_eq_true, c64_iff]; left; omega
              obtain ⟨x, hx1, hx2⟩ := atI_mem (xs := rep) (r := ((i : Int) + step * (j : Int)) % 5) (Int.emod_nonneg _ (by omega)) (by
                have := Int.emod_lt_of_pos ((i : Int) + step * (j : Int)) (show (0 : Int) < 5 by omega)
                rw [hr4]
                simp
                omega)
              refine ⟨x, a, b, ?_, k, hs4 x hx1⟩
              simp only [sSeq_ap, sIf_ap, sRet_ap, sExp_ap, sNil_ap, sPar_ap, sPar3_ap, sAsg_ap, gN_ap, sFor_ap, dC_ap, dVar0, dVarS, set0, setS, dOp_ap, dOp1_ap, dTst_ap, isB_bl, dChain_ap, tAndD_ap, tOrD_ap, tNotD_ap, dAnd_ap, dOr_ap, dNot_ap, dIf_ap, aNil_ap, aCons_ap, dTup_ap, dLst_ap, dNew_ap, dB_ap, dM_ap, dMK_ap, dFn_ap, dSl_ap, dRev_ap, dDS_ap, dDct_ap, dDGet_ap, dOpN_ap, dLenSet_ap, dTupRg_ap, dListRg_ap, oNone_ap, oSome_ap, iSeq_ap, iA_ap, dComp_ap, dCompNew_ap, bind_ok, toF_ok, seq_nx, seq_rt, lift_s, mGo_s, if_t, if_f, if_true, if_false, Bool.false_eq_true, reduceCtorEq, mulD2_int, mulD, c1, addD_int, intD, modD, show (0 : Int) < 5 by omega, ixD, sqA, sqL, hx2]
            | false =>
              cases hw2 : (way == 2) with
              | true =>
                obtain ⟨x, a', b', e, k', hx⟩ := sgn_some k ht3 (xs := [.str [35], .str [46], .str [46]]) (by simp) (by simp) sgn3
                exact ⟨x, a', b', by simp only [sSeq_ap, sIf_ap, sRet_ap, sExp_ap, sNil_ap, sPar_ap, sPar3_ap, sAsg_ap, gN_ap, sFor_ap, dC_ap, dVar0, dVarS, set0, setS, dOp_ap, dOp1_ap, dTst_ap, isB_bl, dChain_ap, tAndD_ap, tOrD_ap, tNotD_ap, dAnd_ap, dOr_ap, dNot_ap, dIf_ap, aNil_ap, aCons_ap, dTup_ap, dLst_ap, dNew_ap, dB_ap, dM_ap, dMK_ap, dFn_ap, dSl_ap, dRev_ap, dDS_ap, dDct_ap, dDGet_ap, dOpN_ap, dLenSet_ap, dTupRg_ap, dListRg_ap, oNone_ap, oSome_ap, iSeq_ap, iA_ap, dComp_ap, dCompNew_ap, bind_ok, toF_ok, seq_nx, seq_rt, lift_s, mGo_s, if_t, if_f, if_true, if_false, Bool.false_eq_true, reduceCtorEq, List.length, Nat.reduceAdd, Nat.reduceLeDiff, e], k', hx⟩
              | false =>
                obtain ⟨x, a', b', e, k', hx⟩ := sgn_some k ht3 (xs := [.str [35], .str [46]]) (by simp) (by simp) sgn2
                exact ⟨x, a', b', by simp only [sSeq_ap, sIf_ap, sRet_ap, sExp_ap, sNil_ap, sPar_ap, sPar3_ap, sAsg_ap, gN_ap, sFor_ap, dC_ap, dVar0, dVarS, set0, setS, dOp_ap, dOp1_ap, dTst_ap, isB_bl, dChain_ap, tAndD_ap, tOrD_ap, tNotD_ap, dAnd_ap, dOr_ap, dNot_ap, dIf_ap, aNil_ap, aCons_ap, dTup_ap, dLst_ap, dNew_ap, dB_ap, dM_ap, dMK_ap, dFn_ap, dSl_ap, dRev_ap, dDS_ap, dDct_ap, dDGet_ap, dOpN_ap, dLenSet_ap, dTupRg_ap, dListRg_ap, oNone_ap, oSome_ap, iSeq_ap, iA_ap, dComp_ap, dCompNew_ap, bind_ok, toF_ok, seq_nx, seq_rt, lift_s, mGo_s, if_t, if_f, if_true, if_false, Bool.false_eq_true, reduceCtorEq, List.length, Nat.reduceAdd, Nat.reduceLeDiff, e], k', hx⟩
          obtain ⟨x, a1, b1, e1, k1, hx1⟩ := key
          have key2 : ∃ y a' b', (dIf (tAndD (dTst (dOp eqO (dVar 5) (dC (.int 3)))) (dTst (dOp gtO (dFn G__law_roll (aCons (dVar 0) (aCons (dC (.int 6)) (aNil)))) (dC (.int 0))))) (dIf (dTst (dOp ltO (dVar 12) (dVar 9))) (dC (.str [35])) (dC (.str [46]))) (dVar 13)) ([some (.obj 0), some (.int p), some (.int e), some (.int many), some (.int wide), some (.int way), some (.obj (t.length + 1)), some (.lst rep), some (.int step), some (.int cut), some (.int j), some (.str row), some (.int i), some x, none]) (cupO a1 b1 :: (t ++ [.lst xs])) = .ok y (cupO a' b' :: (t ++ [.lst xs])) ∧ Ck a' b' ∧ Sgn y := by
            simp only [sSeq_ap, sIf_ap, sRet_ap, sExp_ap, sNil_ap, sPar_ap, sPar3_ap, sAsg_ap, gN_ap, sFor_ap, dC_ap, dVar0, dVarS, set0, setS, dOp_ap, dOp1_ap, dTst_ap, isB_bl, dChain_ap, tAndD_ap, tOrD_ap, tNotD_ap, dAnd_ap, dOr_ap, dNot_ap, dIf_ap, aNil_ap, aCons_ap, dTup_ap, dLst_ap, dNew_ap, dB_ap, dM_ap, dMK_ap, dFn_ap, dSl_ap, dRev_ap, dDS_ap, dDct_ap, dDGet_ap, dOpN_ap, dLenSet_ap, dTupRg_ap, dListRg_ap, oNone_ap, oSome_ap, iSeq_ap, iA_ap, dComp_ap, dCompNew_ap, bind_ok, toF_ok, seq_nx, seq_rt, lift_s, mGo_s, if_t, if_f, if_true, if_false, Bool.false_eq_true, reduceCtorEq, eqO_int]
            cases hw : (way == 3) with
            | false => exact ⟨x, a1, b1, by simp only [sSeq_ap, sIf_ap, sRet_ap, sExp_ap, sNil_ap, sPar_ap, sPar3_ap, sAsg_ap, gN_ap, sFor_ap, dC_ap, dVar0, dVarS, set0, setS, dOp_ap, dOp1_ap, dTst_ap, isB_bl, dChain_ap, tAndD_ap, tOrD_ap, tNotD_ap, dAnd_ap, dOr_ap, dNot_ap, dIf_ap, aNil_ap, aCons_ap, dTup_ap, dLst_ap, dNew_ap, dB_ap, dM_ap, dMK_ap, dFn_ap, dSl_ap, dRev_ap, dDS_ap, dDct_ap, dDGet_ap, dOpN_ap, dLenSet_ap, dTupRg_ap, dListRg_ap, oNone_ap, oSome_ap, iSeq_ap, iA_ap, dComp_ap, dCompNew_ap, bind_ok, toF_ok, seq_nx, seq_rt, lift_s, mGo_s, if_t, if_f, if_true, if_false, Bool.false_eq_true, reduceCtorEq], k1, hx1⟩
            | true =>
              obtain ⟨r, a', b', e, k', _, _⟩ := roll k1 ht3 (m := 6) (by omega) (by omega)
              simp only [sSeq_ap, sIf_ap, sRet_ap, sExp_ap, sNil_ap, sPar_ap, sPar3_ap, sAsg_ap, gN_ap, sFor_ap, dC_ap, dVar0, dVarS, set0, setS, dOp_ap, dOp1_ap, dTst_ap, isB_bl, dChain_ap, tAndD_ap, tOrD_ap, tNotD_ap, dAnd_ap, dOr_ap, dNot_ap, dIf_ap, aNil_ap, aCons_ap, dTup_ap, dLst_ap, dNew_ap, dB_ap, dM_ap, dMK_ap, dFn_ap, dSl_ap, dRev_ap, dDS_ap, dDct_ap, dDGet_ap, dOpN_ap, dLenSet_ap, dTupRg_ap, dListRg_ap, oNone_ap, oSome_ap, iSeq_ap, iA_ap, dComp_ap, dCompNew_ap, bind_ok, toF_ok, seq_nx, seq_rt, lift_s, mGo_s, if_t, if_f, if_true, if_false, Bool.false_eq_true, reduceCtorEq, e, gtO]
              cases decide (0 < r) with
              | false => exact ⟨x, a', b', by simp only [sSeq_ap, sIf_ap, sRet_ap, sExp_ap, sNil_ap, sPar_ap, sPar3_ap, sAsg_ap, gN_ap, sFor_ap, dC_ap, dVar0, dVarS, set0, setS, dOp_ap, dOp1_ap, dTst_ap, isB_bl, dChain_ap, tAndD_ap, tOrD_ap, tNotD_ap, dAnd_ap, dOr_ap, dNot_ap, dIf_ap, aNil_ap, aCons_ap, dTup_ap, dLst_ap, dNew_ap, dB_ap, dM_ap, dMK_ap, dFn_ap, dSl_ap, dRev_ap, dDS_ap, dDct_ap, dDGet_ap, dOpN_ap, dLenSet_ap, dTupRg_ap, dListRg_ap, oNone_ap, oSome_ap, iSeq_ap, iA_ap, dComp_ap, dCompNew_ap, bind_ok, toF_ok, seq_nx, seq_rt, lift_s, mGo_s, if_t, if_f, if_true, if_false, Bool.false_eq_true, reduceCtorEq], k', hx1⟩
              | true =>
                simp only [sSeq_ap, sIf_ap, sRet_ap, sExp_ap, sNil_ap, sPar_ap, sPar3_ap, sAsg_ap, gN_ap, sFor_ap, dC_ap, dVar0, dVarS, set0, setS, dOp_ap, dOp1_ap, dTst_ap, isB_bl, dChain_ap, tAndD_ap, tOrD_ap, tNotD_ap, dAnd_ap, dOr_ap, dNot_ap, dIf_ap, aNil_ap, aCons_ap, dTup_ap, dLst_ap, dNew_ap, dB_ap, dM_ap, dMK_ap, dFn_ap, dSl_ap, dRev_ap, dDS_ap, dDct_ap, dDGet_ap, dOpN_ap, dLenSet_ap, dTupRg_ap, dListRg_ap, oNone_ap, oSome_ap, iSeq_ap, iA_ap, dComp_ap, dCompNew_ap, bind_ok, toF_ok, seq_nx, seq_rt, lift_s, mGo_s, if_t, if_f, if_true, if_false, Bool.false_eq_true, reduceCtorEq, ltO, ltD, Option.map_some]
                cases decide ((i : Int) < cut) with
                | false => exact ⟨.str [46], a', b', by simp only [sSeq_ap, sIf_ap, sRet_ap, sExp_ap, sNil_ap, sPar_ap, sPar3_ap, sAsg_ap, gN_ap, sFor_ap, dC_ap, dVar0, dVarS, set0, setS, dOp_ap, dOp1_ap, dTst_ap, isB_bl, dChain_ap, tAndD_ap, tOrD_ap, tNotD_ap, dAnd_ap, dOr_ap, dNot_ap, dIf_ap, aNil_ap, aCons_ap, dTup_ap, dLst_ap, dNew_ap, dB_ap, dM_ap, dMK_ap, dFn_ap, dSl_ap, dRev_ap, dDS_ap, dDct_ap, dDGet_ap, dOpN_ap, dLenSet_ap, dTupRg_ap, dListRg_ap, oNone_ap, oSome_ap, iSeq_ap, iA_ap, dComp_ap, dCompNew_ap, bind_ok, toF_ok, seq_nx, seq_rt, lift_s, mGo_s, if_t, if_f, if_true, if_false, Bool.false_eq_true, reduceCtorEq], k', .inr rfl⟩
                | true => exact ⟨.str [35], a', b', by simp only [sSeq_ap, sIf_ap, sRet_ap, sExp_ap, sNil_ap, sPar_ap, sPar3_ap, sAsg_ap, gN_ap, sFor_ap, dC_ap, dVar0, dVarS, set0, setS, dOp_ap, dOp1_ap, dTst_ap, isB_bl, dChain_ap, tAndD_ap, tOrD_ap, tNotD_ap, dAnd_ap, dOr_ap, dNot_ap, dIf_ap, aNil_ap, aCons_ap, dTup_ap, dLst_ap, dNew_ap, dB_ap, dM_ap, dMK_ap, dFn_ap, dSl_ap, dRev_ap, dDS_ap, dDct_ap, dDGet_ap, dOpN_ap, dLenSet_ap, dTupRg_ap, dListRg_ap, oNone_ap, oSome_ap, iSeq_ap, iA_ap, dComp_ap, dCompNew_ap, bind_ok, toF_ok, seq_nx, seq_rt, lift_s, mGo_s, if_t, if_f, if_true, if_false, Bool.false_eq_true, reduceCtorEq], k', .inl rfl⟩
          obtain ⟨y, a2, b2, e2, k2, hy⟩ := key2
          obtain ⟨c, rfl, hc⟩ : ∃ c, y = .str [c] ∧ (c = 35 ∨ c = 46) := by
            rcases hy with rfl | rfl
            · exact ⟨35, rfl, .inl rfl⟩
            · exact ⟨46, rfl, .inr rfl⟩
          refine ⟨_, _, ?_, a2, b2, row ++ [c], k2, rfl, by simp [hl], fun z hz => ?_, some (.int i), some x, rfl⟩
          · unfold L1__law_cloth
            simp only [set0, setS]
            rw [sSeq_ap, sAsg_ap, e1]
            simp only [toF_ok, gN_ap, seq_nx, set0, setS]
            rw [sAsg_ap, dOp_ap]
            simp only [dVarS, dVar0, bind_ok, e2]
            simp only [bind_ok, addD_str (a := row) (b := [c]) _ (by simp; omega), lift_s, toF_ok, gN_ap, set0, setS]
          · rcases List.mem_append.mp hz with hz | hz
            · exact hx z hz
            · simp at hz; subst hz; exact hc)
      rw [e8]
      simp only [List.length_map, List.length_range, Int.toNat_natCast] at hl8
      have hlt : xs.length < 16777216 := by omega
      refine ⟨_, _, ?_, a8, b8, xs ++ [.str row], k8, rfl, by simp [hl], ?_, some (.int j), some (.str row), w12, w13, rfl⟩
      · simp only [sSeq_ap, sIf_ap, sRet_ap, sExp_ap, sNil_ap, sPar_ap, sPar3_ap, sAsg_ap, gN_ap, sFor_ap, dC_ap, dVar0, dVarS, set0, setS, dOp_ap, dOp1_ap, dTst_ap, isB_bl, dChain_ap, tAndD_ap, tOrD_ap, tNotD_ap, dAnd_ap, dOr_ap, dNot_ap, dIf_ap, aNil_ap, aCons_ap, dTup_ap, dLst_ap, dNew_ap, dB_ap, dM_ap, dMK_ap, dFn_ap, dSl_ap, dRev_ap, dDS_ap, dDct_ap, dDGet_ap, dOpN_ap, dLenSet_ap, dTupRg_ap, dListRg_ap, oNone_ap, oSome_ap, iSeq_ap, iA_ap, dComp_ap, dCompNew_ap, bind_ok, toF_ok, seq_nx, seq_rt, lift_s, mGo_s, if_t, if_f, if_true, if_false, Bool.false_eq_true, reduceCtorEq, tyD_cup, appD_last hlt]
      · intro z hz
        rcases List.mem_append.mp hz with hz | hz
        · exact hx z hz
        · simp at hz; subst hz; exact ⟨row, rfl, hl8, hx8⟩)
  rw [e7]
  obtain ⟨v10, v11, v12, v13, rfl⟩ := hρ
  simp only [List.length_map, List.length_range, Int.toNat_natCast] at hl7
  refine ⟨xs, a7, b7, wide, ?_, k7, ⟨by omega, by omega⟩, ⟨by omega, by omega⟩, hx7⟩
  simp only [sSeq_ap, sIf_ap, sRet_ap, sExp_ap, sNil_ap, sPar_ap, sPar3_ap, sAsg_ap, gN_ap, sFor_ap, dC_ap, dVar0, dVarS, set0, setS, dOp_ap, dOp1_ap, dTst_ap, isB_bl, dChain_ap, tAndD_ap, tOrD_ap, tNotD_ap, dAnd_ap, dOr_ap, dNot_ap, dIf_ap, aNil_ap, aCons_ap, dTup_ap, dLst_ap, dNew_ap, dB_ap, dM_ap, dMK_ap, dFn_ap, dSl_ap, dRev_ap, dDS_ap, dDct_ap, dDGet_ap, dOpN_ap, dLenSet_ap, dTupRg_ap, dListRg_ap, oNone_ap, oSome_ap, iSeq_ap, iA_ap, dComp_ap, dCompNew_ap, bind_ok, toF_ok, seq_nx, seq_rt, lift_s, mGo_s, if_t, if_f, if_true, if_false, Bool.false_eq_true, reduceCtorEq, tupleD2, tupleD, sqA_last, Option.map_some]
  have hlk : lk 1 (.tup xs) = true := by
    simp only [lk, Bool.and_eq_true, decide_eq_true_eq, List.all_eq_true]
    exact ⟨by omega, hx7.lk (by omega)⟩
  exact exit_cup ht hlk
def clothB (v : D) : Bool := match v with
  | .tup xs => decide (1 ≤ xs.length) && (decide (xs.length ≤ 12) && (xs.all (fun p => wordB p [35, 46] 1 12) && xs.all fun p => decide ((strL p).length = (strL (xs.headD .non)).length)))
  | _ => false
theorem fits_ok {v : D} {n : Nat} (hv : lk n v = true) (s : Sto) : G_fits_cloth [v] s = .ok (.bl (clothB v)) s := by
  unfold G_fits_cloth
  rw [runB_ap 1 2 _ _ _ rfl]
  unfold B_fits_cloth
  simp only [startD, List.map, List.replicate, List.length, Nat.reduceSub, Nat.reduceAdd, List.cons_append, List.nil_append, List.append_nil, sSeq_ap, sIf_ap, sRet_ap, sExp_ap, sNil_ap, sPar_ap, sPar3_ap, sAsg_ap, gN_ap, sFor_ap, dC_ap, dVar0, dVarS, set0, setS, dOp_ap, dOp1_ap, dTst_ap, isB_bl, dChain_ap, tAndD_ap, tOrD_ap, tNotD_ap, dAnd_ap, dOr_ap, dNot_ap, dIf_ap, aNil_ap, aCons_ap, dTup_ap, dLst_ap, dNew_ap, dB_ap, dM_ap, dMK_ap, dFn_ap, dSl_ap, dRev_ap, dDS_ap, dDct_ap, dDGet_ap, dOpN_ap, dLenSet_ap, dTupRg_ap, dListRg_ap, oNone_ap, oSome_ap, iSeq_ap, iA_ap, dComp_ap, dCompNew_ap, bind_ok, toF_ok, seq_nx, seq_rt, lift_s, mGo_s, if_t, if_f, if_true, if_false, Bool.false_eq_true, reduceCtorEq, tuple_ok hv s]
  cases v with
  | tup xs =>
    obtain ⟨hl, ha⟩ := lk_tup hv
    simp only [clothB]
    by_cases h1 : 1 ≤ xs.length
    · have h1' : (1 : Int) ≤ (xs.length : Int) := by omega
      by_cases h2 : xs.length ≤ 12
      · have h2' : (xs.length : Int) ≤ 12 := by omega
        simp only [decide_eq_true h1, decide_eq_true h2, decide_eq_true h1', decide_eq_true h2', Bool.true_and, Bool.not_true, sSeq_ap, sIf_ap, sRet_ap, sExp_ap, sNil_ap, sPar_ap, sPar3_ap, sAsg_ap, gN_ap, sFor_ap, dC_ap, dVar0, dVarS, set0, setS, dOp_ap, dOp1_ap, dTst_ap, isB_bl, dChain_ap, tAndD_ap, tOrD_ap, tNotD_ap, dAnd_ap, dOr_ap, dNot_ap, dIf_ap, aNil_ap, aCons_ap, dTup_ap, dLst_ap, dNew_ap, dB_ap, dM_ap, dMK_ap, dFn_ap, dSl_ap, dRev_ap, dDS_ap, dDct_ap, dDGet_ap, dOpN_ap, dLenSet_ap, dTupRg_ap, dListRg_ap, oNone_ap, oSome_ap, iSeq_ap, iA_ap, dComp_ap, dCompNew_ap, bind_ok, toF_ok, seq_nx, seq_rt, lift_s, mGo_s, if_t, if_f, if_true, if_false, Bool.false_eq_true, reduceCtorEq, itemsD]
        have hn : ∀ d ∈ xs, ∃ m, lk m d = true := fun d hd => by
          have := List.all_eq_true.mp ha d hd
          cases n with
          | zero => simp [lkS] at this
          | succ n => exact ⟨n, this⟩
        rw [cmp_all (h := fun d => .bl (wordB d [35, 46] 1 12)) rfl _ (fun d hd => by
          obtain ⟨m, hm⟩ := hn d hd
          refine ⟨_, rfl, ?_⟩
          unfold E1_fits_cloth
          simp only [sSeq_ap, sIf_ap, sRet_ap, sExp_ap, sNil_ap, sPar_ap, sPar3_ap, sAsg_ap, gN_ap, sFor_ap, dC_ap, dVar0, dVarS, set0, setS, dOp_ap, dOp1_ap, dTst_ap, isB_bl, dChain_ap, tAndD_ap, tOrD_ap, tNotD_ap, dAnd_ap, dOr_ap, dNot_ap, dIf_ap, aNil_ap, aCons_ap, dTup_ap, dLst_ap, dNew_ap, dB_ap, dM_ap, dMK_ap, dFn_ap, dSl_ap, dRev_ap, dDS_ap, dDct_ap, dDGet_ap, dOpN_ap, dLenSet_ap, dTupRg_ap, dListRg_ap, oNone_ap, oSome_ap, iSeq_ap, iA_ap, dComp_ap, dCompNew_ap, bind_ok, toF_ok, seq_nx, seq_rt, lift_s, mGo_s, if_t, if_f, if_true, if_false, Bool.false_eq_true, reduceCtorEq, wipeD, addD, List.length, Nat.reduceAdd, Nat.reduceLeDiff, List.cons_append, List.nil_append]
          exact word_ok hm s) (by omega)]
        simp only [sSeq_ap, sIf_ap, sRet_ap, sExp_ap, sNil_ap, sPar_ap, sPar3_ap, sAsg_ap, gN_ap, sFor_ap, dC_ap, dVar0, dVarS, set0, setS, dOp_ap, dOp1_ap, dTst_ap, isB_bl, dChain_ap, tAndD_ap, tOrD_ap, tNotD_ap, dAnd_ap, dOr_ap, dNot_ap, dIf_ap, aNil_ap, aCons_ap, dTup_ap, dLst_ap, dNew_ap, dB_ap, dM_ap, dMK_ap, dFn_ap, dSl_ap, dRev_ap, dDS_ap, dDct_ap, dDGet_ap, dOpN_ap, dLenSet_ap, dTupRg_ap, dListRg_ap, oNone_ap, oSome_ap, iSeq_ap, iA_ap, dComp_ap, dCompNew_ap, bind_ok, toF_ok, seq_nx, seq_rt, lift_s, mGo_s, if_t, if_f, if_true, if_false, Bool.false_eq_true, reduceCtorEq, allD_bl]
        cases hw : xs.all fun p => wordB p [35, 46] 1 12 with
        | false => simp only [sSeq_ap, sIf_ap, sRet_ap, sExp_ap, sNil_ap, sPar_ap, sPar3_ap, sAsg_ap, gN_ap, sFor_ap, dC_ap, dVar0, dVarS, set0, setS, dOp_ap, dOp1_ap, dTst_ap, isB_bl, dChain_ap, tAndD_ap, tOrD_ap, tNotD_ap, dAnd_ap, dOr_ap, dNot_ap, dIf_ap, aNil_ap, aCons_ap, dTup_ap, dLst_ap, dNew_ap, dB_ap, dM_ap, dMK_ap, dFn_ap, dSl_ap, dRev_ap, dDS_ap, dDct_ap, dDGet_ap, dOpN_ap, dLenSet_ap, dTupRg_ap, dListRg_ap, oNone_ap, oSome_ap, iSeq_ap, iA_ap, dComp_ap, dCompNew_ap, bind_ok, toF_ok, seq_nx, seq_rt, lift_s, mGo_s, if_t, if_f, if_true, if_false, Bool.false_eq_true, reduceCtorEq, Bool.not_false, Bool.false_and]; exact exB _ _
        | true =>
          simp only [sSeq_ap, sIf_ap, sRet_ap, sExp_ap, sNil_ap, sPar_ap, sPar3_ap, sAsg_ap, gN_ap, sFor_ap, dC_ap, dVar0, dVarS, set0, setS, dOp_ap, dOp1_ap, dTst_ap, isB_bl, dChain_ap, tAndD_ap, tOrD_ap, tNotD_ap, dAnd_ap, dOr_ap, dNot_ap, dIf_ap, aNil_ap, aCons_ap, dTup_ap, dLst_ap, dNew_ap, dB_ap, dM_ap, dMK_ap, dFn_ap, dSl_ap, dRev_ap, dDS_ap, dDct_ap, dDGet_ap, dOpN_ap, dLenSet_ap, dTupRg_ap, dListRg_ap, oNone_ap, oSome_ap, iSeq_ap, iA_ap, dComp_ap, dCompNew_ap, bind_ok, toF_ok, seq_nx, seq_rt, lift_s, mGo_s, if_t, if_f, if_true, if_false, Bool.false_eq_true, reduceCtorEq, Bool.not_true, Bool.true_and, itemsD]
          obtain ⟨x, r, rfl⟩ : ∃ x r, xs = x :: r := by cases xs with
            | nil => simp at h1
            | cons x r => exact ⟨x, r, rfl⟩
          have hstr : ∀ d ∈ x :: r, ∃ a, d = .str a := fun d hd => by
            obtain ⟨a, e, _⟩ := wordB_str (List.all_eq_true.mp hw d hd)
            exact ⟨a, e⟩
          obtain ⟨a, rfl⟩ := hstr x (List.mem_cons_self ..)
          rw [cmp_all (h := fun d => .bl (decide ((strL d).length = a.length))) rfl _ (fun d hd => by
            obtain ⟨b, rfl⟩ := hstr d hd
            refine ⟨_, rfl, ?_⟩
            unfold E2_fits_cloth
            simp only [sSeq_ap, sIf_ap, sRet_ap, sExp_ap, sNil_ap, sPar_ap, sPar3_ap, sAsg_ap, gN_ap, sFor_ap, dC_ap, dVar0, dVarS, set0, setS, dOp_ap, dOp1_ap, dTst_ap, isB_bl, dChain_ap, tAndD_ap, tOrD_ap, tNotD_ap, dAnd_ap, dOr_ap, dNot_ap, dIf_ap, aNil_ap, aCons_ap, dTup_ap, dLst_ap, dNew_ap, dB_ap, dM_ap, dMK_ap, dFn_ap, dSl_ap, dRev_ap, dDS_ap, dDct_ap, dDGet_ap, dOpN_ap, dLenSet_ap, dTupRg_ap, dListRg_ap, oNone_ap, oSome_ap, iSeq_ap, iA_ap, dComp_ap, dCompNew_ap, bind_ok, toF_ok, seq_nx, seq_rt, lift_s, mGo_s, if_t, if_f, if_true, if_false, Bool.false_eq_true, reduceCtorEq, wipeD, lenD_str, ixD, sqA, atI0, eqO_int, strL]
            rw [show ((b.length : Int) == (a.length : Int)) = decide (b.length = a.length) by rw [Bool.eq_iff_iff, beq_iff_eq, decide_eq_true_iff]; omega]
            rfl) (by omega)]
          simp only [sSeq_ap, sIf_ap, sRet_ap, sExp_ap, sNil_ap, sPar_ap, sPar3_ap, sAsg_ap, gN_ap, sFor_ap, dC_ap, dVar0, dVarS, set0, setS, dOp_ap, dOp1_ap, dTst_ap, isB_bl, dChain_ap, tAndD_ap, tOrD_ap, tNotD_ap, dAnd_ap, dOr_ap, dNot_ap, dIf_ap, aNil_ap, aCons_ap, dTup_ap, dLst_ap, dNew_ap, dB_ap, dM_ap, dMK_ap, dFn_ap, dSl_ap, dRev_ap, dDS_ap, dDct_ap, dDGet_ap, dOpN_ap, dLenSet_ap, dTupRg_ap, dListRg_ap, oNone_ap, oSome_ap, iSeq_ap, iA_ap, dComp_ap, dCompNew_ap, bind_ok, toF_ok, seq_nx, seq_rt, lift_s, mGo_s, if_t, if_f, if_true, if_false, Bool.false_eq_true, reduceCtorEq, allD_bl]
          exact exB _ _
      · have h2' : ¬ (xs.length : Int) ≤ 12 := by omega
        simp only [decide_eq_false h2, decide_eq_false h2', Bool.and_false, Bool.false_and, Bool.not_false, sSeq_ap, sIf_ap, sRet_ap, sExp_ap, sNil_ap, sPar_ap, sPar3_ap, sAsg_ap, gN_ap, sFor_ap, dC_ap, dVar0, dVarS, set0, setS, dOp_ap, dOp1_ap, dTst_ap, isB_bl, dChain_ap, tAndD_ap, tOrD_ap, tNotD_ap, dAnd_ap, dOr_ap, dNot_ap, dIf_ap, aNil_ap, aCons_ap, dTup_ap, dLst_ap, dNew_ap, dB_ap, dM_ap, dMK_ap, dFn_ap, dSl_ap, dRev_ap, dDS_ap, dDct_ap, dDGet_ap, dOpN_ap, dLenSet_ap, dTupRg_ap, dListRg_ap, oNone_ap, oSome_ap, iSeq_ap, iA_ap, dComp_ap, dCompNew_ap, bind_ok, toF_ok, seq_nx, seq_rt, lift_s, mGo_s, if_t, if_f, if_true, if_false, Bool.false_eq_true, reduceCtorEq]
        exact exB _ _
    · have h1' : ¬ (1 : Int) ≤ (xs.length : Int) := by omega
      simp only [decide_eq_false h1, decide_eq_false h1', Bool.false_and, Bool.not_false, sSeq_ap, sIf_ap, sRet_ap, sExp_ap, sNil_ap, sPar_ap, sPar3_ap, sAsg_ap, gN_ap, sFor_ap, dC_ap, dVar0, dVarS, set0, setS, dOp_ap, dOp1_ap, dTst_ap, isB_bl, dChain_ap, tAndD_ap, tOrD_ap, tNotD_ap, dAnd_ap, dOr_ap, dNot_ap, dIf_ap, aNil_ap, aCons_ap, dTup_ap, dLst_ap, dNew_ap, dB_ap, dM_ap, dMK_ap, dFn_ap, dSl_ap, dRev_ap, dDS_ap, dDct_ap, dDGet_ap, dOpN_ap, dLenSet_ap, dTupRg_ap, dListRg_ap, oNone_ap, oSome_ap, iSeq_ap, iA_ap, dComp_ap, dCompNew_ap, bind_ok, toF_ok, seq_nx, seq_rt, lift_s, mGo_s, if_t, if_f, if_true, if_false, Bool.false_eq_true, reduceCtorEq]
      exact exB _ _
  | _ => simp only [Bool.not_false, sSeq_ap, sIf_ap, sRet_ap, sExp_ap, sNil_ap, sPar_ap, sPar3_ap, sAsg_ap, gN_ap, sFor_ap, dC_ap, dVar0, dVarS, set0, setS, dOp_ap, dOp1_ap, dTst_ap, isB_bl, dChain_ap, tAndD_ap, tOrD_ap, tNotD_ap, dAnd_ap, dOr_ap, dNot_ap, dIf_ap, aNil_ap, aCons_ap, dTup_ap, dLst_ap, dNew_ap, dB_ap, dM_ap, dMK_ap, dFn_ap, dSl_ap, dRev_ap, dDS_ap, dDct_ap, dDGet_ap, dOpN_ap, dLenSet_ap, dTupRg_ap, dListRg_ap, oNone_ap, oSome_ap, iSeq_ap, iA_ap, dComp_ap, dCompNew_ap, bind_ok, toF_ok, seq_nx, seq_rt, lift_s, mGo_s, if_t, if_f, if_true, if_false, Bool.false_eq_true, reduceCtorEq]; exact exB _ _
theorem rows_cloth {w : Nat} {xs : List D} (hx : Rows w xs) (h1 : 1 ≤ xs.length) (h2 : xs.length ≤ 12) (w1 : 1 ≤ w) (w2 : w ≤ 12) : clothB (.tup xs) = true := by
  have hl : ∀ x ∈ xs, (strL x).length = w := fun x hm => by
    obtain ⟨r, rfl, hr, _⟩ := hx x hm
    exact hr
  have hh : (strL (xs.headD .non)).length = w := by
    cases xs with
    | nil => simp at h1
    | cons x r => exact hl x (List.mem_cons_self ..)
  simp only [clothB, Bool.and_eq_true, decide_eq_true_eq, List.all_eq_true]
  refine ⟨h1, h2, fun p hp => ?_, fun p hp => by rw [hl p hp, hh]⟩
  obtain ⟨r, rfl, hr, hc⟩ := hx p hp
  simp only [wordB, Bool.and_eq_true, decide_eq_true_eq, List.all_eq_true]
  exact ⟨by omega, by omega, fun c hm => by simpa using hc c hm⟩
/-! ### threads and what lies over -/
def sgw (w : Nat) (r : List Nat) : Prop := r.length = w ∧ ∀ c ∈ r, c = 35 ∨ c = 46
structure CC (w : Nat) (rs : List (List Nat)) : Prop where
  row : ∀ r ∈ rs, sgw w r
  w1 : 1 ≤ w
  w2 : w ≤ 12
  h1 : 1 ≤ rs.length
  h2 : rs.length ≤ 12
def clD (rs : List (List Nat)) : D := .tup (rs.map D.str)
theorem CC.rows {w : Nat} {rs : List (List Nat)} (h : CC w rs) : Rows w (rs.map D.str) := fun x hx => by
  obtain ⟨r, hr, rfl⟩ := List.mem_map.mp hx
  exact ⟨r, rfl, h.row r hr⟩
theorem CC.cloth {w : Nat} {rs : List (List Nat)} (h : CC w rs) : clothB (clD rs) = true :=
  rows_cloth h.rows (by rw [List.length_map]; exact h.h1) (by rw [List.length_map]; exact h.h2) h.w1 h.w2
theorem CC.clk {w : Nat} {rs : List (List Nat)} (h : CC w rs) : lk 1 (clD rs) = true := by
  have := h.h2
  have := h.w2
  exact lk_tupI (by rw [List.length_map]; omega) (h.rows.lk (by omega))
theorem needc_ok {w : Nat} {rs : List (List Nat)} (h : CC w rs) (s : Sto) : G_need_cloth [clD rs] s = .ok .non s := by
  unfold G_need_cloth
  rw [runB_ap 1 1 _ _ _ rfl]
  unfold B_need_cloth
  simp only [startD, List.map, List.replicate, List.length, Nat.reduceSub, Nat.reduceAdd, List.cons_append, List.nil_append, List.append_nil, sSeq_ap, sIf_ap, sRet_ap, sExp_ap, sNil_ap, sPar_ap, sPar3_ap, sAsg_ap, gN_ap, sFor_ap, dC_ap, dVar0, dVarS, set0, setS, dOp_ap, dOp1_ap, dTst_ap, isB_bl, dChain_ap, tAndD_ap, tOrD_ap, tNotD_ap, dAnd_ap, dOr_ap, dNot_ap, dIf_ap, aNil_ap, aCons_ap, dTup_ap, dLst_ap, dNew_ap, dB_ap, dM_ap, dMK_ap, dFn_ap, dSl_ap, dRev_ap, dDS_ap, dDct_ap, dDGet_ap, dOpN_ap, dLenSet_ap, dTupRg_ap, dListRg_ap, oNone_ap, oSome_ap, iSeq_ap, iA_ap, dComp_ap, dCompNew_ap, bind_ok, toF_ok, seq_nx, seq_rt, lift_s, mGo_s, if_t, if_f, if_true, if_false, Bool.false_eq_true, reduceCtorEq, fits_ok h.clk, h.cloth, Bool.not_true]
  exact exit_same_nx
def thD (k : Bool) (i : Nat) : D := .tup [if k = true then .str [112, 105, 99, 107] else .str [101, 110, 100], .int (i : Int)]
def thsL (w h : Nat) : List (Bool × Nat) := (List.range w).map (fun i => (false, i)) ++ (List.range h).map fun i => (true, i)
def thsD (w h : Nat) : List D := (thsL w h).map fun p => thD p.1 p.2
theorem ths_mem {w h : Nat} {p : Bool × Nat} (hp : p ∈ thsL w h) : (p.1 = false ∧ p.2 < w) ∨ (p.1 = true ∧ p.2 < h) := by
  rcases List.mem_append.mp hp with hp | hp
  · obtain ⟨i, hi, rfl⟩ := List.mem_map.mp hp
    exact .inl ⟨rfl, List.mem_range.mp hi⟩
  · obtain ⟨i, hi, rfl⟩ := List.mem_map.mp hp
    exact .inr ⟨rfl, List.mem_range.mp hi⟩
theorem ths_len (w h : Nat) : (thsD w h).length = w + h := by simp [thsD, thsL]
def thE (k : Bool) (d : D) : D := match d with
  | .int i => thD k i.toNat
  | _ => .non
theorem thE_map (k : Bool) (n : Nat) : (rngL n).map (thE k) = ((List.range n).map fun i => (k, i)).map fun p => thD p.1 p.2 := by
  unfold rngL
  rw [List.map_map, List.map_map]
  refine List.map_congr_left fun i _ => ?_
  show thD k (0 + (i : Int)).toNat = thD k i
  rw [show (0 + (i : Int)).toNat = i by omega]
theorem hd_ok {w : Nat} {rs : List (List Nat)} (h : CC w rs) : ∃ c0 : List Nat, (∀ s, ixD (clD rs) (.int 0) s = some (.str c0)) ∧ c0.length = w := by
  obtain ⟨r0, rr, rfl⟩ : ∃ r0 rr, rs = r0 :: rr := by cases rs with
    | nil => have := h.h1; simp at this
    | cons a b => exact ⟨a, b, rfl⟩
  exact ⟨r0, fun s => atI0 _ _, (h.row r0 (List.mem_cons_self ..)).1⟩
theorem th_lk (w h : Nat) : ∀ d ∈ thsD w h, lk 1 d = true := fun d hd => by
  obtain ⟨p, _, rfl⟩ := List.mem_map.mp hd
  cases p.1 <;> rfl
theorem threads_ok {w : Nat} {rs : List (List Nat)} (h : CC w rs) (s : Sto) : G_threads_in [clD rs] s = .ok (.lst (thsD w rs.length)) s := by
  obtain ⟨c0, hc0, hcl⟩ := hd_ok h
  have hw2 := h.w2
  have hh2 := h.h2
  have hl : ∀ s, lenD [clD rs] s = some (.int (rs.length : Int)) := fun s => by show some (D.int ((rs.map D.str).length : Int)) = _; rw [List.length_map]
  unfold G_threads_in
  rw [runB_ap 1 2 _ _ _ rfl]
  unfold B_threads_in
  simp only [startD, List.map, List.replicate, List.length, Nat.reduceSub, Nat.reduceAdd, List.cons_append, List.nil_append, List.append_nil, sSeq_ap, sIf_ap, sRet_ap, sExp_ap, sNil_ap, sPar_ap, sPar3_ap, sAsg_ap, gN_ap, sFor_ap, dC_ap, dVar0, dVarS, set0, setS, dOp_ap, dOp1_ap, dTst_ap, isB_bl, dChain_ap, tAndD_ap, tOrD_ap, tNotD_ap, dAnd_ap, dOr_ap, dNot_ap, dIf_ap, aNil_ap, aCons_ap, dTup_ap, dLst_ap, dNew_ap, dB_ap, dM_ap, dMK_ap, dFn_ap, dSl_ap, dRev_ap, dDS_ap, dDct_ap, dDGet_ap, dOpN_ap, dLenSet_ap, dTupRg_ap, dListRg_ap, oNone_ap, oSome_ap, iSeq_ap, iA_ap, dComp_ap, dCompNew_ap, bind_ok, toF_ok, seq_nx, seq_rt, lift_s, mGo_s, if_t, if_f, if_true, if_false, Bool.false_eq_true, reduceCtorEq, hc0, lenD_str, hcl, rng1L (n := w) _ (by omega)]
  rw [cmp_all (h := thE false) rfl _ (fun d hd => by
    obtain ⟨i, hi, rfl⟩ := rngL_mem hd
    refine ⟨_, rfl, ?_⟩
    unfold E1_threads_in
    simp only [sSeq_ap, sIf_ap, sRet_ap, sExp_ap, sNil_ap, sPar_ap, sPar3_ap, sAsg_ap, gN_ap, sFor_ap, dC_ap, dVar0, dVarS, set0, setS, dOp_ap, dOp1_ap, dTst_ap, isB_bl, dChain_ap, tAndD_ap, tOrD_ap, tNotD_ap, dAnd_ap, dOr_ap, dNot_ap, dIf_ap, aNil_ap, aCons_ap, dTup_ap, dLst_ap, dNew_ap, dB_ap, dM_ap, dMK_ap, dFn_ap, dSl_ap, dRev_ap, dDS_ap, dDct_ap, dDGet_ap, dOpN_ap, dLenSet_ap, dTupRg_ap, dListRg_ap, oNone_ap, oSome_ap, iSeq_ap, iA_ap, dComp_ap, dCompNew_ap, bind_ok, toF_ok, seq_nx, seq_rt, lift_s, mGo_s, if_t, if_f, if_true, if_false, Bool.false_eq_true, reduceCtorEq, wipeD, List.length, Nat.reduceAdd, Nat.reduceLeDiff, thE, thD, if_false, Bool.false_eq_true, Int.zero_add, Int.toNat_natCast]) (by rw [rngL_len]; omega)]
  simp only [sSeq_ap, sIf_ap, sRet_ap, sExp_ap, sNil_ap, sPar_ap, sPar3_ap, sAsg_ap, gN_ap, sFor_ap, dC_ap, dVar0, dVarS, set0, setS, dOp_ap, dOp1_ap, dTst_ap, isB_bl, dChain_ap, tAndD_ap, tOrD_ap, tNotD_ap, dAnd_ap, dOr_ap, dNot_ap, dIf_ap, aNil_ap, aCons_ap, dTup_ap, dLst_ap, dNew_ap, dB_ap, dM_ap, dMK_ap, dFn_ap, dSl_ap, dRev_ap, dDS_ap, dDct_ap, dDGet_ap, dOpN_ap, dLenSet_ap, dTupRg_ap, dListRg_ap, oNone_ap, oSome_ap, iSeq_ap, iA_ap, dComp_ap, dCompNew_ap, bind_ok, toF_ok, seq_nx, seq_rt, lift_s, mGo_s, if_t, if_f, if_true, if_false, Bool.false_eq_true, reduceCtorEq, hl, rng1L (n := rs.length) _ (by omega)]
  rw [cmp_all (h := thE true) rfl _ (fun d hd => by
    obtain ⟨i, hi, rfl⟩ := rngL_mem hd
    refine ⟨_, rfl, ?_⟩
    unfold E2_threads_in
    simp only [sSeq_ap, sIf_ap, sRet_ap, sExp_ap, sNil_ap, sPar_ap, sPar3_ap, sAsg_ap, gN_ap, sFor_ap, dC_ap, dVar0, dVarS, set0, setS, dOp_ap, dOp1_ap, dTst_ap, isB_bl, dChain_ap, tAndD_ap, tOrD_ap, tNotD_ap, dAnd_ap, dOr_ap, dNot_ap, dIf_ap, aNil_ap, aCons_ap, dTup_ap, dLst_ap, dNew_ap, dB_ap, dM_ap, dMK_ap, dFn_ap, dSl_ap, dRev_ap, dDS_ap, dDct_ap, dDGet_ap, dOpN_ap, dLenSet_ap, dTupRg_ap, dListRg_ap, oNone_ap, oSome_ap, iSeq_ap, iA_ap, dComp_ap, dCompNew_ap, bind_ok, toF_ok, seq_nx, seq_rt, lift_s, mGo_s, if_t, if_f, if_true, if_false, Bool.false_eq_true, reduceCtorEq, wipeD, List.length, Nat.reduceAdd, Nat.reduceLeDiff, thE, thD, if_true, Int.zero_add, Int.toNat_natCast]) (by rw [rngL_len]; omega)]
  simp only [sSeq_ap, sIf_ap, sRet_ap, sExp_ap, sNil_ap, sPar_ap, sPar3_ap, sAsg_ap, gN_ap, sFor_ap, dC_ap, dVar0, dVarS, set0, setS, dOp_ap, dOp1_ap, dTst_ap, isB_bl, dChain_ap, tAndD_ap, tOrD_ap, tNotD_ap, dAnd_ap, dOr_ap, dNot_ap, dIf_ap, aNil_ap, aCons_ap, dTup_ap, dLst_ap, dNew_ap, dB_ap, dM_ap, dMK_ap, dFn_ap, dSl_ap, dRev_ap, dDS_ap, dDct_ap, dDGet_ap, dOpN_ap, dLenSet_ap, dTupRg_ap, dListRg_ap, oNone_ap, oSome_ap, iSeq_ap, iA_ap, dComp_ap, dCompNew_ap, bind_ok, toF_ok, seq_nx, seq_rt, lift_s, mGo_s, if_t, if_f, if_true, if_false, Bool.false_eq_true, reduceCtorEq, addD_lst (a := (rngL w).map (thE false)) (b := (rngL rs.length).map (thE true)) _ (by rw [List.length_map, List.length_map, rngL_len, rngL_len]; omega)]
  rw [thE_map, thE_map, ← List.map_append]
  exact exitE0 (n := 2) (lk_lstI (by have := ths_len w rs.length; unfold thsD at this; exact Nat.le_trans (Nat.le_of_eq this) (by omega)) (th_lk w rs.length))
theorem eq1 (a b : Nat) : (([a] : List Nat) == [b]) = decide (a = b) := by rw [Bool.eq_iff_iff, beq_iff_eq, decide_eq_true_iff]; simp
def c46 (d : D) : D := match d with
  | .str [c] => .bl (decide (c = 46))
  | _ => .non
def c35 (i : Nat) (d : D) : D := match d with
  | .str r => .bl (decide (r.getD i 0 = 35))
  | _ => .non
theorem row_at {w : Nat} {rs : List (List Nat)} {i : Nat} (hi : i < rs.length) (s : Sto) : ixD (clD rs) (.int (i : Int)) s = some (.str (rs.getD i [])) := by
  rw [List.getD_eq_getElem?_getD, List.getElem?_eq_getElem hi]
  exact atI_nat (by rw [List.getElem?_map, List.getElem?_eq_getElem hi]; rfl)
theorem at_c {r : List Nat} {i : Nat} (h : i < r.length) : atI r (i : Int) = some (r.getD i 0) := by
  rw [List.getD_eq_getElem?_getD, List.getElem?_eq_getElem h]
  exact atI_nat (List.getElem?_eq_getElem h)
theorem rowg {w : Nat} {rs : List (List Nat)} (h : CC w rs) {i : Nat} (hi : i < rs.length) : sgw w (rs.getD i []) := by
  rw [List.getD_eq_getElem?_getD, List.getElem?_eq_getElem hi]
  exact h.row _ (List.getElem_mem hi)
end K01

set_option Elab.async false
set_option linter.all false
set_option maxRecDepth 100000
set_option maxHeartbeats 2000000
namespace K01
open Z L2
theorem inter_nil : ∀ l : List (List Nat), List.intercalate [] l = l.flatten
  | [] => rfl
  | [x] => by simp [List.intercalate]
  | x :: y :: r => by
    have ih := inter_nil (y :: r)
    rw [show List.intercalate [] (x :: y :: r) = x ++ ([] ++ List.intercalate [] (y :: r)) by simp [List.intercalate], ih]
    rfl
theorem chars_join {r : List Nat} (hr : r.length ≤ 1000) (s : Sto) : joinD (.str []) [.lst (r.map fun c => .str [c])] s = some (.str r, s) := by
  have hs : strsD (r.map fun c => D.str [c]) = some (r.map fun c => [c]) := by
    clear hr
    induction r with
    | nil => rfl
    | cons c r ih => rw [List.map_cons, strsD, ih]; rfl
  have hf : (r.map fun c => [c]).flatten = r := by
    clear hr hs
    induction r with
    | nil => rfl
    | cons c r ih => rw [List.map_cons, List.flatten_cons, ih]; rfl
  simp only [joinD, sqA, sqL, hs]
  rw [inter_nil, hf, if_pos]
  have : ((r.map fun c => [c]).map (·.length)).sum = r.length := by
    clear hr hs hf
    induction r with
    | nil => rfl
    | cons c r ih => rw [List.map_cons, List.map_cons, List.sum_cons, ih, List.length_cons]; simp; omega
  rw [this]
  simp
  omega
/-! ### the other sign, turned, from behind -/
theorem eq1' (c x : Nat) : ([c] == [x]) = decide (c = x) := by rw [Bool.eq_iff_iff, beq_iff_eq, decide_eq_true_iff]; simp
def fl (c : Nat) : Nat := if c = 35 then 46 else 35
def sc (c : Nat) : Prop := c = 35 ∨ c = 46
theorem fl_fl {c : Nat} (h : sc c) : fl (fl c) = c := by rcases h with rfl | rfl <;> rfl
theorem fl_sc (c : Nat) : sc (fl c) := by unfold fl; split; exact .inr rfl; exact .inl rfl
def tn (w : Nat) (rs : List (List Nat)) : List (List Nat) := (List.range w).map fun e => rs.map fun r => fl (r.getD e 0)
def bk (rs : List (List Nat)) : List (List Nat) := rs.map fun r => r.reverse.map fl
theorem other_ok {c : Nat} (s : Sto) : G_other_sign [.str [c]] s = .ok (.str [fl c]) s := by
  unfold G_other_sign
  rw [runB_ap 1 1 _ _ _ rfl]
  unfold B_other_sign
  have e : ([c] == [35]) = decide (c = 35) := by rw [Bool.eq_iff_iff, beq_iff_eq, decide_eq_true_iff]; simp
  by_cases h : c = 35
  · simp only [startD, List.map, List.replicate, List.length, Nat.reduceSub, Nat.reduceAdd, List.cons_append, List.nil_append, List.append_nil, sSeq_ap, sIf_ap, sRet_ap, sExp_ap, sNil_ap, sPar_ap, sPar3_ap, sAsg_ap, gN_ap, sFor_ap, dC_ap, dVar0, dVarS, set0, setS, dOp_ap, dOp1_ap, dTst_ap, isB_bl, dChain_ap, tAndD_ap, tOrD_ap, tNotD_ap, dAnd_ap, dOr_ap, dNot_ap, dIf_ap, aNil_ap, aCons_ap, dTup_ap, dLst_ap, dNew_ap, dB_ap, dM_ap, dMK_ap, dFn_ap, dSl_ap, dRev_ap, dDS_ap, dDct_ap, dDGet_ap, dOpN_ap, dLenSet_ap, dTupRg_ap, dListRg_ap, oNone_ap, oSome_ap, iSeq_ap, iA_ap, dComp_ap, dCompNew_ap, bind_ok, toF_ok, seq_nx, seq_rt, lift_s, mGo_s, if_t, if_f, if_true, if_false, Bool.false_eq_true, reduceCtorEq, eqO_str, e, decide_eq_true h, fl, if_pos h]
    exact exitE0 (n := 1) rfl
  · simp only [startD, List.map, List.replicate, List.length, Nat.reduceSub, Nat.reduceAdd, List.cons_append, List.nil_append, List.append_nil, sSeq_ap, sIf_ap, sRet_ap, sExp_ap, sNil_ap, sPar_ap, sPar3_ap, sAsg_ap, gN_ap, sFor_ap, dC_ap, dVar0, dVarS, set0, setS, dOp_ap, dOp1_ap, dTst_ap, isB_bl, dChain_ap, tAndD_ap, tOrD_ap, tNotD_ap, dAnd_ap, dOr_ap, dNot_ap, dIf_ap, aNil_ap, aCons_ap, dTup_ap, dLst_ap, dNew_ap, dB_ap, dM_ap, dMK_ap, dFn_ap, dSl_ap, dRev_ap, dDS_ap, dDct_ap, dDGet_ap, dOpN_ap, dLenSet_ap, dTupRg_ap, dListRg_ap, oNone_ap, oSome_ap, iSeq_ap, iA_ap, dComp_ap, dCompNew_ap, bind_ok, toF_ok, seq_nx, seq_rt, lift_s, mGo_s, if_t, if_f, if_true, if_false, Bool.false_eq_true, reduceCtorEq, eqO_str, e, decide_eq_false h, fl, if_neg h]
    exact exitE0 (n := 1) rfl
def flD (d : D) : D := match d with
  | .str [c] => .str [fl c]
  | _ => .non
theorem swapped_ok {r : List Nat} (h : r.length ≤ 12) (s : Sto) : G_swapped [.str r] s = .ok (.str (r.map fl)) s := by
  unfold G_swapped
  rw [runB_ap 1 2 _ _ _ rfl]
  unfold B_swapped
  have hi : ∀ s, itemsD s (.str r) = some (r.map fun c => .str [c], []) := fun _ => rfl
  simp only [startD, List.map, List.replicate, List.length, Nat.reduceSub, Nat.reduceAdd, List.cons_append, List.nil_append, List.append_nil, sSeq_ap, sIf_ap, sRet_ap, sExp_ap, sNil_ap, sPar_ap, sPar3_ap, sAsg_ap, gN_ap, sFor_ap, dC_ap, dVar0, dVarS, set0, setS, dOp_ap, dOp1_ap, dTst_ap, isB_bl, dChain_ap, tAndD_ap, tOrD_ap, tNotD_ap, dAnd_ap, dOr_ap, dNot_ap, dIf_ap, aNil_ap, aCons_ap, dTup_ap, dLst_ap, dNew_ap, dB_ap, dM_ap, dMK_ap, dFn_ap, dSl_ap, dRev_ap, dDS_ap, dDct_ap, dDGet_ap, dOpN_ap, dLenSet_ap, dTupRg_ap, dListRg_ap, oNone_ap, oSome_ap, iSeq_ap, iA_ap, dComp_ap, dCompNew_ap, bind_ok, toF_ok, seq_nx, seq_rt, lift_s, mGo_s, if_t, if_f, if_true, if_false, Bool.false_eq_true, reduceCtorEq, hi]
  rw [cmp_all (h := flD) rfl _ (fun d hd => by
    obtain ⟨c, hc, rfl⟩ := List.mem_map.mp hd
    refine ⟨_, rfl, ?_⟩
    unfold E1_swapped
    simp only [sSeq_ap, sIf_ap, sRet_ap, sExp_ap, sNil_ap, sPar_ap, sPar3_ap, sAsg_ap, gN_ap, sFor_ap, dC_ap, dVar0, dVarS, set0, setS, dOp_ap, dOp1_ap, dTst_ap, isB_bl, dChain_ap, tAndD_ap, tOrD_ap, tNotD_ap, dAnd_ap, dOr_ap, dNot_ap, dIf_ap, aNil_ap, aCons_ap, dTup_ap, dLst_ap, dNew_ap, dB_ap, dM_ap, dMK_ap, dFn_ap, dSl_ap, dRev_ap, dDS_ap, dDct_ap, dDGet_ap, dOpN_ap, dLenSet_ap, dTupRg_ap, dListRg_ap, oNone_ap, oSome_ap, iSeq_ap, iA_ap, dComp_ap, dCompNew_ap, bind_ok, toF_ok, seq_nx, seq_rt, lift_s, mGo_s, if_t, if_f, if_true, if_false, Bool.false_eq_true, reduceCtorEq, wipeD, other_ok, flD]) (by rw [List.length_map]; omega)]
  rw [show (r.map fun c => D.str [c]).map flD = (r.map fl).map fun c => D.str [c] by rw [List.map_map, List.map_map]; rfl]
  simp only [sSeq_ap, sIf_ap, sRet_ap, sExp_ap, sNil_ap, sPar_ap, sPar3_ap, sAsg_ap, gN_ap, sFor_ap, dC_ap, dVar0, dVarS, set0, setS, dOp_ap, dOp1_ap, dTst_ap, isB_bl, dChain_ap, tAndD_ap, tOrD_ap, tNotD_ap, dAnd_ap, dOr_ap, dNot_ap, dIf_ap, aNil_ap, aCons_ap, dTup_ap, dLst_ap, dNew_ap, dB_ap, dM_ap, dMK_ap, dFn_ap, dSl_ap, dRev_ap, dDS_ap, dDct_ap, dDGet_ap, dOpN_ap, dLenSet_ap, dTupRg_ap, dListRg_ap, oNone_ap, oSome_ap, iSeq_ap, iA_ap, dComp_ap, dCompNew_ap, bind_ok, toF_ok, seq_nx, seq_rt, lift_s, mGo_s, if_t, if_f, if_true, if_false, Bool.false_eq_true, reduceCtorEq, tyD_str, chars_join (r := r.map fl) (by rw [List.length_map]; omega)]
  exact exitE0 (n := 1) (lk_str (by rw [List.length_map]; omega))
def colD (i : Int) (d : D) : D := match d with
  | .str r => .str [r.getD i.toNat 0]
  | _ => .non
def tnD (rs : List (List Nat)) (d : D) : D := match d with
  | .int i => .str (rs.map fun r => fl (r.getD i.toNat 0))
  | _ => .non
theorem turned_ok {w : Nat} {rs : List (List Nat)} (h : CC w rs) (s : Sto) : G_turned_cloth [clD rs] s = .ok (clD (tn w rs)) s := by
  obtain ⟨c0, hc0, hcl⟩ := hd_ok h
  have hw2 := h.w2
  have hh2 := h.h2
  have hi : ∀ s, itemsD s (clD rs) = some (rs.map D.str, []) := fun _ => rfl
  unfold G_turned_cloth
  rw [runB_ap 1 3 _ _ _ rfl]
  unfold B_turned_cloth
  simp only [startD, List.map, List.replicate, List.length, Nat.reduceSub, Nat.reduceAdd, List.cons_append, List.nil_append, List.append_nil, sSeq_ap, sIf_ap, sRet_ap, sExp_ap, sNil_ap, sPar_ap, sPar3_ap, sAsg_ap, gN_ap, sFor_ap, dC_ap, dVar0, dVarS, set0, setS, dOp_ap, dOp1_ap, dTst_ap, isB_bl, dChain_ap, tAndD_ap, tOrD_ap, tNotD_ap, dAnd_ap, dOr_ap, dNot_ap, dIf_ap, aNil_ap, aCons_ap, dTup_ap, dLst_ap, dNew_ap, dB_ap, dM_ap, dMK_ap, dFn_ap, dSl_ap, dRev_ap, dDS_ap, dDct_ap, dDGet_ap, dOpN_ap, dLenSet_ap, dTupRg_ap, dListRg_ap, oNone_ap, oSome_ap, iSeq_ap, iA_ap, dComp_ap, dCompNew_ap, bind_ok, toF_ok, seq_nx, seq_rt, lift_s, mGo_s, if_t, if_f, if_true, if_false, Bool.false_eq_true, reduceCtorEq, needc_ok h, hc0, lenD_str, hcl, rng1L (n := w) _ (by omega)]
  rw [cmp_all (h := tnD rs) rfl _ (fun d hd => by
    obtain ⟨i, hi', rfl⟩ := rngL_mem hd
    refine ⟨_, rfl, ?_⟩
    unfold E2_turned_cloth
    simp only [sSeq_ap, sIf_ap, sRet_ap, sExp_ap, sNil_ap, sPar_ap, sPar3_ap, sAsg_ap, gN_ap, sFor_ap, dC_ap, dVar0, dVarS, set0, setS, dOp_ap, dOp1_ap, dTst_ap, isB_bl, dChain_ap, tAndD_ap, tOrD_ap, tNotD_ap, dAnd_ap, dOr_ap, dNot_ap, dIf_ap, aNil_ap, aCons_ap, dTup_ap, dLst_ap, dNew_ap, dB_ap, dM_ap, dMK_ap, dFn_ap, dSl_ap, dRev_ap, dDS_ap, dDct_ap, dDGet_ap, dOpN_ap, dLenSet_ap, dTupRg_ap, dListRg_ap, oNone_ap, oSome_ap, iSeq_ap, iA_ap, dComp_ap, dCompNew_ap, bind_ok, toF_ok, seq_nx, seq_rt, lift_s, mGo_s, if_t, if_f, if_true, if_false, Bool.false_eq_true, reduceCtorEq, wipeD, hi, Int.zero_add]
    rw [cmp_all (h := colD (i : Int)) rfl _ (fun d hd => by
      obtain ⟨r, hr, rfl⟩ := List.mem_map.mp hd
      refine ⟨_, rfl, ?_⟩
      unfold E1_turned_cloth
      simp only [sSeq_ap, sIf_ap, sRet_ap, sExp_ap, sNil_ap, sPar_ap, sPar3_ap, sAsg_ap, gN_ap, sFor_ap, dC_ap, dVar0, dVarS, set0, setS, dOp_ap, dOp1_ap, dTst_ap, isB_bl, dChain_ap, tAndD_ap, tOrD_ap, tNotD_ap, dAnd_ap, dOr_ap, dNot_ap, dIf_ap, aNil_ap, aCons_ap, dTup_ap, dLst_ap, dNew_ap, dB_ap, dM_ap, dMK_ap, dFn_ap, dSl_ap, dRev_ap, dDS_ap, dDct_ap, dDGet_ap, dOpN_ap, dLenSet_ap, dTupRg_ap, dListRg_ap, oNone_ap, oSome_ap, iSeq_ap, iA_ap, dComp_ap, dCompNew_ap, bind_ok, toF_ok, seq_nx, seq_rt, lift_s, mGo_s, if_t, if_f, if_true, if_false, Bool.false_eq_true, reduceCtorEq, wipeD, ixD, at_c (show i < r.length by rw [(h.row r hr).1]; exact hi'), Option.map_some, colD, Int.toNat_natCast, Int.zero_add]) (by rw [List.length_map]; omega)]
    rw [show (rs.map D.str).map (colD (i : Int)) = (rs.map fun r => r.getD i 0).map fun c => D.str [c] by rw [List.map_map, List.map_map]; exact List.map_congr_left fun r _ => by show D.str [r.getD ((i : Int)).toNat 0] = _; rw [Int.toNat_natCast]; rfl]
    simp only [sSeq_ap, sIf_ap, sRet_ap, sExp_ap, sNil_ap, sPar_ap, sPar3_ap, sAsg_ap, gN_ap, sFor_ap, dC_ap, dVar0, dVarS, set0, setS, dOp_ap, dOp1_ap, dTst_ap, isB_bl, dChain_ap, tAndD_ap, tOrD_ap, tNotD_ap, dAnd_ap, dOr_ap, dNot_ap, dIf_ap, aNil_ap, aCons_ap, dTup_ap, dLst_ap, dNew_ap, dB_ap, dM_ap, dMK_ap, dFn_ap, dSl_ap, dRev_ap, dDS_ap, dDct_ap, dDGet_ap, dOpN_ap, dLenSet_ap, dTupRg_ap, dListRg_ap, oNone_ap, oSome_ap, iSeq_ap, iA_ap, dComp_ap, dCompNew_ap, bind_ok, toF_ok, seq_nx, seq_rt, lift_s, mGo_s, if_t, if_f, if_true, if_false, Bool.false_eq_true, reduceCtorEq, tyD_str, chars_join (r := rs.map fun r => r.getD i 0) (by rw [List.length_map]; omega), swapped_ok (r := rs.map fun r => r.getD i 0) (by rw [List.length_map]; omega), List.length, Nat.reduceAdd, Nat.reduceLeDiff]
    rw [List.map_map]
    show _ = R.ok (D.str (rs.map fun r => fl (r.getD ((i : Int)).toNat 0))) s
    rw [Int.toNat_natCast]; rfl) (by rw [rngL_len]; omega)]
  rw [show (rngL w).map (tnD rs) = (tn w rs).map D.str by
    unfold rngL tn
    rw [List.map_map, List.map_map]
    refine List.map_congr_left fun i _ => ?_
    show D.str (rs.map fun r => fl (r.getD (0 + (i : Int)).toNat 0)) = D.str (rs.map fun r => fl (r.getD i 0))
    rw [show (0 + (i : Int)).toNat = i by omega]]
  simp only [sSeq_ap, sIf_ap, sRet_ap, sExp_ap, sNil_ap, sPar_ap, sPar3_ap, sAsg_ap, gN_ap, sFor_ap, dC_ap, dVar0, dVarS, set0, setS, dOp_ap, dOp1_ap, dTst_ap, isB_bl, dChain_ap, tAndD_ap, tOrD_ap, tNotD_ap, dAnd_ap, dOr_ap, dNot_ap, dIf_ap, aNil_ap, aCons_ap, dTup_ap, dLst_ap, dNew_ap, dB_ap, dM_ap, dMK_ap, dFn_ap, dSl_ap, dRev_ap, dDS_ap, dDct_ap, dDGet_ap, dOpN_ap, dLenSet_ap, dTupRg_ap, dListRg_ap, oNone_ap, oSome_ap, iSeq_ap, iA_ap, dComp_ap, dCompNew_ap, bind_ok, toF_ok, seq_nx, seq_rt, lift_s, mGo_s, if_t, if_f, if_true, if_false, Bool.false_eq_true, reduceCtorEq, tupleD2, sqA]
  refine exitE0 (n := 1) (lk_tupI (by rw [List.length_map]; unfold tn; rw [List.length_map, List.length_range]; omega) fun d hd => ?_)
  obtain ⟨r, hr, rfl⟩ := List.mem_map.mp hd
  unfold tn at hr
  obtain ⟨e, _, rfl⟩ := List.mem_map.mp hr
  exact lk_str (by rw [List.length_map]; omega)
def bkD (d : D) : D := match d with
  | .str r => .str (r.reverse.map fl)
  | _ => .non
theorem back_ok {w : Nat} {rs : List (List Nat)} (h : CC w rs) (s : Sto) : G_back_of [clD rs] s = .ok (clD (bk rs)) s := by
  have hw2 := h.w2
  have hh2 := h.h2
  have hi : ∀ s, itemsD s (clD rs) = some (rs.map D.str, []) := fun _ => rfl
  unfold G_back_of
  rw [runB_ap 1 2 _ _ _ rfl]
  unfold B_back_of
  simp only [startD, List.map, List.replicate, List.length, Nat.reduceSub, Nat.reduceAdd, List.cons_append, List.nil_append, List.append_nil, sSeq_ap, sIf_ap, sRet_ap, sExp_ap, sNil_ap, sPar_ap, sPar3_ap, sAsg_ap, gN_ap, sFor_ap, dC_ap, dVar0, dVarS, set0, setS, dOp_ap, dOp1_ap, dTst_ap, isB_bl, dChain_ap, tAndD_ap, tOrD_ap, tNotD_ap, dAnd_ap, dOr_ap, dNot_ap, dIf_ap, aNil_ap, aCons_ap, dTup_ap, dLst_ap, dNew_ap, dB_ap, dM_ap, dMK_ap, dFn_ap, dSl_ap, dRev_ap, dDS_ap, dDct_ap, dDGet_ap, dOpN_ap, dLenSet_ap, dTupRg_ap, dListRg_ap, oNone_ap, oSome_ap, iSeq_ap, iA_ap, dComp_ap, dCompNew_ap, bind_ok, toF_ok, seq_nx, seq_rt, lift_s, mGo_s, if_t, if_f, if_true, if_false, Bool.false_eq_true, reduceCtorEq, needc_ok h, hi]
  rw [cmp_all (h := bkD) rfl _ (fun d hd => by
    obtain ⟨r, hr, rfl⟩ := List.mem_map.mp hd
    have hl := (h.row r hr).1
    refine ⟨_, rfl, ?_⟩
    unfold E1_back_of
    simp only [sSeq_ap, sIf_ap, sRet_ap, sExp_ap, sNil_ap, sPar_ap, sPar3_ap, sAsg_ap, gN_ap, sFor_ap, dC_ap, dVar0, dVarS, set0, setS, dOp_ap, dOp1_ap, dTst_ap, isB_bl, dChain_ap, tAndD_ap, tOrD_ap, tNotD_ap, dAnd_ap, dOr_ap, dNot_ap, dIf_ap, aNil_ap, aCons_ap, dTup_ap, dLst_ap, dNew_ap, dB_ap, dM_ap, dMK_ap, dFn_ap, dSl_ap, dRev_ap, dDS_ap, dDct_ap, dDGet_ap, dOpN_ap, dLenSet_ap, dTupRg_ap, dListRg_ap, oNone_ap, oSome_ap, iSeq_ap, iA_ap, dComp_ap, dCompNew_ap, bind_ok, toF_ok, seq_nx, seq_rt, lift_s, mGo_s, if_t, if_f, if_true, if_false, Bool.false_eq_true, reduceCtorEq, wipeD, dRev_ap, revD, swapped_ok (r := r.reverse) (by rw [List.length_reverse]; omega), List.length, Nat.reduceAdd, Nat.reduceLeDiff, bkD]) (by rw [List.length_map]; omega)]
  rw [show (rs.map D.str).map bkD = (bk rs).map D.str by unfold bk; rw [List.map_map, List.map_map]; rfl]
  simp only [sSeq_ap, sIf_ap, sRet_ap, sExp_ap, sNil_ap, sPar_ap, sPar3_ap, sAsg_ap, gN_ap, sFor_ap, dC_ap, dVar0, dVarS, set0, setS, dOp_ap, dOp1_ap, dTst_ap, isB_bl, dChain_ap, tAndD_ap, tOrD_ap, tNotD_ap, dAnd_ap, dOr_ap, dNot_ap, dIf_ap, aNil_ap, aCons_ap, dTup_ap, dLst_ap, dNew_ap, dB_ap, dM_ap, dMK_ap, dFn_ap, dSl_ap, dRev_ap, dDS_ap, dDct_ap, dDGet_ap, dOpN_ap, dLenSet_ap, dTupRg_ap, dListRg_ap, oNone_ap, oSome_ap, iSeq_ap, iA_ap, dComp_ap, dCompNew_ap, bind_ok, toF_ok, seq_nx, seq_rt, lift_s, mGo_s, if_t, if_f, if_true, if_false, Bool.false_eq_true, reduceCtorEq, tupleD2, sqA]
  refine exitE0 (n := 1) (lk_tupI (by rw [List.length_map]; unfold bk; rw [List.length_map]; omega) fun d hd => ?_)
  obtain ⟨r, hr, rfl⟩ := List.mem_map.mp hd
  unfold bk at hr
  obtain ⟨e, he, rfl⟩ := List.mem_map.mp hr
  exact lk_str (by rw [List.length_map, List.length_reverse, (h.row e he).1]; omega)
/-! ### which lies over which -/
theorem fitsT_ok {w : Nat} {rs : List (List Nat)} (h : CC w rs) {k : Bool} {i : Nat} (hi : (k = false ∧ i < w) ∨ (k = true ∧ i < rs.length)) (s : Sto) : G_fits_thread [clD rs, thD k i] s = .ok (.bl true) s := by
  obtain ⟨c0, hc0, hcl⟩ := hd_ok h
  have hl : ∀ s, lenD [clD rs] s = some (.int (rs.length : Int)) := fun s => by show some (D.int ((rs.map D.str).length : Int)) = _; rw [List.length_map]
  unfold G_fits_thread
  rw [runB_ap 2 2 _ _ _ rfl]
  unfold B_fits_thread
  rcases hi with ⟨rfl, hi⟩ | ⟨rfl, hi⟩
  · have h0 : ∀ s, ixD (thD false i) (.int 0) s = some (.str [101, 110, 100]) := fun _ => rfl
    have h1 : ∀ s, ixD (thD false i) (.int 1) s = some (.int (i : Int)) := fun _ => rfl
    have ht : ∀ s, G_is_tuple_of [thD false i, .int 2, .int 2] s = .ok (.bl true) s := fun s => tuple_ok (n := 1) rfl s
    have hw : ∀ s, G_is_whole [.int (i : Int), .int 0, .int ((w : Int) - 1)] s = .ok (.bl true) s := fun s => by
      rw [whole_ok (n := 1) rfl s]
      congr 2
      simp [wholeB]
      omega
    have hin : ∀ s, ninO (.str [101, 110, 100]) (.tup [.str [101, 110, 100], .str [112, 105, 99, 107]]) s = some (.bl false) := fun _ => rfl
    have his : ∀ s, isiD [.str [101, 110, 100], .ty "str"] s = some (.bl true) := fun s => by rfl
    simp only [startD, List.map, List.replicate, List.length, Nat.reduceSub, Nat.reduceAdd, List.cons_append, List.nil_append, List.append_nil, sSeq_ap, sIf_ap, sRet_ap, sExp_ap, sNil_ap, sPar_ap, sPar3_ap, sAsg_ap, gN_ap, sFor_ap, dC_ap, dVar0, dVarS, set0, setS, dOp_ap, dOp1_ap, dTst_ap, isB_bl, dChain_ap, tAndD_ap, tOrD_ap, tNotD_ap, dAnd_ap, dOr_ap, dNot_ap, dIf_ap, aNil_ap, aCons_ap, dTup_ap, dLst_ap, dNew_ap, dB_ap, dM_ap, dMK_ap, dFn_ap, dSl_ap, dRev_ap, dDS_ap, dDct_ap, dDGet_ap, dOpN_ap, dLenSet_ap, dTupRg_ap, dListRg_ap, oNone_ap, oSome_ap, iSeq_ap, iA_ap, dComp_ap, dCompNew_ap, bind_ok, toF_ok, seq_nx, seq_rt, lift_s, mGo_s, if_t, if_f, if_true, if_false, Bool.false_eq_true, reduceCtorEq, ht, h0, h1, hin, his, Nat.reduceLeDiff, Bool.not_true, Bool.not_false, eqO_str, BEq.rfl, hc0, lenD_str, hcl, subD, hw]
    exact exitE0 (n := 1) rfl
  · have h0 : ∀ s, ixD (thD true i) (.int 0) s = some (.str [112, 105, 99, 107]) := fun _ => rfl
    have h1 : ∀ s, ixD (thD true i) (.int 1) s = some (.int (i : Int)) := fun _ => rfl
    have ht : ∀ s, G_is_tuple_of [thD true i, .int 2, .int 2] s = .ok (.bl true) s := fun s => tuple_ok (n := 1) rfl s
    have hw : ∀ s, G_is_whole [.int (i : Int), .int 0, .int ((rs.length : Int) - 1)] s = .ok (.bl true) s := fun s => by
      rw [whole_ok (n := 1) rfl s]
      congr 2
      simp [wholeB]
      omega
    have hin : ∀ s, ninO (.str [112, 105, 99, 107]) (.tup [.str [101, 110, 100], .str [112, 105, 99, 107]]) s = some (.bl false) := fun _ => rfl
    have his : ∀ s, isiD [.str [112, 105, 99, 107], .ty "str"] s = some (.bl true) := fun s => by rfl
    simp only [startD, List.map, List.replicate, List.length, Nat.reduceSub, Nat.reduceAdd, List.cons_append, List.nil_append, List.append_nil, sSeq_ap, sIf_ap, sRet_ap, sExp_ap, sNil_ap, sPar_ap, sPar3_ap, sAsg_ap, gN_ap, sFor_ap, dC_ap, dVar0, dVarS, set0, setS, dOp_ap, dOp1_ap, dTst_ap, isB_bl, dChain_ap, tAndD_ap, tOrD_ap, tNotD_ap, dAnd_ap, dOr_ap, dNot_ap, dIf_ap, aNil_ap, aCons_ap, dTup_ap, dLst_ap, dNew_ap, dB_ap, dM_ap, dMK_ap, dFn_ap, dSl_ap, dRev_ap, dDS_ap, dDct_ap, dDGet_ap, dOpN_ap, dLenSet_ap, dTupRg_ap, dListRg_ap, oNone_ap, oSome_ap, iSeq_ap, iA_ap, dComp_ap, dCompNew_ap, bind_ok, toF_ok, seq_nx, seq_rt, lift_s, mGo_s, if_t, if_f, if_true, if_false, Bool.false_eq_true, reduceCtorEq, ht, h0, h1, hin, his, Nat.reduceLeDiff, Bool.not_true, Bool.not_false, eqO_str, show (([112, 105, 99, 107] : List Nat) == [101, 110, 100]) = false from rfl, hl, subD, hw]
    exact exitE0 (n := 1) rfl
theorem needT_ok {w : Nat} {rs : List (List Nat)} (h : CC w rs) {k : Bool} {i : Nat} (hi : (k = false ∧ i < w) ∨ (k = true ∧ i < rs.length)) (s : Sto) : G_need_thread [clD rs, thD k i] s = .ok .non s := by
  unfold G_need_thread
  rw [runB_ap 2 2 _ _ _ rfl]
  unfold B_need_thread
  simp only [startD, List.map, List.replicate, List.length, Nat.reduceSub, Nat.reduceAdd, List.cons_append, List.nil_append, List.append_nil, sSeq_ap, sIf_ap, sRet_ap, sExp_ap, sNil_ap, sPar_ap, sPar3_ap, sAsg_ap, gN_ap, sFor_ap, dC_ap, dVar0, dVarS, set0, setS, dOp_ap, dOp1_ap, dTst_ap, isB_bl, dChain_ap, tAndD_ap, tOrD_ap, tNotD_ap, dAnd_ap, dOr_ap, dNot_ap, dIf_ap, aNil_ap, aCons_ap, dTup_ap, dLst_ap, dNew_ap, dB_ap, dM_ap, dMK_ap, dFn_ap, dSl_ap, dRev_ap, dDS_ap, dDct_ap, dDGet_ap, dOpN_ap, dLenSet_ap, dTupRg_ap, dListRg_ap, oNone_ap, oSome_ap, iSeq_ap, iA_ap, dComp_ap, dCompNew_ap, bind_ok, toF_ok, seq_nx, seq_rt, lift_s, mGo_s, if_t, if_f, if_true, if_false, Bool.false_eq_true, reduceCtorEq, fitsT_ok h hi, Bool.not_true]
  exact exit_same_nx
/-- whether end e lies over pick p -/
def up (rs : List (List Nat)) (p e : Nat) : Bool := decide ((rs.getD p []).getD e 0 = 35)
def ovT (rs : List (List Nat)) (k : Bool) (i : Nat) (k' : Bool) (i' : Nat) : Bool := if k = k' then false else if k = true then !up rs i i' else up rs i' i
theorem cell {w : Nat} {rs : List (List Nat)} (h : CC w rs) {p e : Nat} (hp : p < rs.length) (he : e < w) (s : Sto) : ixD (.str (rs.getD p [])) (.int (e : Int)) s = some (.str [(rs.getD p []).getD e 0]) := by
  simp only [ixD, at_c (show e < (rs.getD p []).length by rw [(rowg h hp).1]; exact he), Option.map_some]
theorem cell_sc {w : Nat} {rs : List (List Nat)} (h : CC w rs) {p e : Nat} (hp : p < rs.length) (he : e < w) : sc ((rs.getD p []).getD e 0) := by
  have hr := rowg h hp
  have : e < (rs.getD p []).length := by rw [hr.1]; exact he
  rw [List.getD_eq_getElem?_getD, List.getElem?_eq_getElem this]
  exact hr.2 _ (List.getElem_mem this)
theorem lies_ok {w : Nat} {rs : List (List Nat)} (h : CC w rs) {k k' : Bool} {i i' : Nat} (hi : (k = false ∧ i < w) ∨ (k = true ∧ i < rs.length)) (hi' : (k' = false ∧ i' < w) ∨ (k' = true ∧ i' < rs.length)) (s : Sto) : G_lies_over [clD rs, thD k i, thD k' i'] s = .ok (.bl (ovT rs k i k' i')) s := by
  unfold G_lies_over
  rw [runB_ap 3 3 _ _ _ rfl]
  unfold B_lies_over
  have h0 : ∀ (k : Bool) (i : Nat) s, ixD (thD k i) (.int 0) s = some (if k = true then .str [112, 105, 99, 107] else .str [101, 110, 100]) := fun _ _ _ => rfl
  have h1 : ∀ (k : Bool) (i : Nat) s, ixD (thD k i) (.int 1) s = some (.int (i : Int)) := fun _ _ _ => rfl
  have e1 : ∀ (c x : Nat), ([c] == [x]) = decide (c = x) := fun c x => by rw [Bool.eq_iff_iff, beq_iff_eq, decide_eq_true_iff]; simp
  rcases hi with ⟨rfl, hi⟩ | ⟨rfl, hi⟩ <;> rcases hi' with ⟨rfl, hi'⟩ | ⟨rfl, hi'⟩
  · simp only [startD, List.map, List.replicate, List.length, Nat.reduceSub, Nat.reduceAdd, List.cons_append, List.nil_append, List.append_nil, sSeq_ap, sIf_ap, sRet_ap, sExp_ap, sNil_ap, sPar_ap, sPar3_ap, sAsg_ap, gN_ap, sFor_ap, dC_ap, dVar0, dVarS, set0, setS, dOp_ap, dOp1_ap, dTst_ap, isB_bl, dChain_ap, tAndD_ap, tOrD_ap, tNotD_ap, dAnd_ap, dOr_ap, dNot_ap, dIf_ap, aNil_ap, aCons_ap, dTup_ap, dLst_ap, dNew_ap, dB_ap, dM_ap, dMK_ap, dFn_ap, dSl_ap, dRev_ap, dDS_ap, dDct_ap, dDGet_ap, dOpN_ap, dLenSet_ap, dTupRg_ap, dListRg_ap, oNone_ap, oSome_ap, iSeq_ap, iA_ap, dComp_ap, dCompNew_ap, bind_ok, toF_ok, seq_nx, seq_rt, lift_s, mGo_s, if_t, if_f, if_true, if_false, Bool.false_eq_true, reduceCtorEq, h0, h1, eqO_str, if_true, if_false, Bool.false_eq_true, BEq.rfl]
    exact exitE0 (n := 1) rfl
  · simp only [startD, List.map, List.replicate, List.length, Nat.reduceSub, Nat.reduceAdd, List.cons_append, List.nil_append, List.append_nil, sSeq_ap, sIf_ap, sRet_ap, sExp_ap, sNil_ap, sPar_ap, sPar3_ap, sAsg_ap, gN_ap, sFor_ap, dC_ap, dVar0, dVarS, set0, setS, dOp_ap, dOp1_ap, dTst_ap, isB_bl, dChain_ap, tAndD_ap, tOrD_ap, tNotD_ap, dAnd_ap, dOr_ap, dNot_ap, dIf_ap, aNil_ap, aCons_ap, dTup_ap, dLst_ap, dNew_ap, dB_ap, dM_ap, dMK_ap, dFn_ap, dSl_ap, dRev_ap, dDS_ap, dDct_ap, dDGet_ap, dOpN_ap, dLenSet_ap, dTupRg_ap, dListRg_ap, oNone_ap, oSome_ap, iSeq_ap, iA_ap, dComp_ap, dCompNew_ap, bind_ok, toF_ok, seq_nx, seq_rt, lift_s, mGo_s, if_t, if_f, if_true, if_false, Bool.false_eq_true, reduceCtorEq, h0, h1, eqO_str, if_true, if_false, Bool.false_eq_true, BEq.rfl, show (([101, 110, 100] : List Nat) == [112, 105, 99, 107]) = false from rfl, row_at (w := w) hi', cell h hi' hi, e1]
    exact exitE0 (n := 1) rfl
  · have hc := cell_sc h hi hi'
    have e2 : decide ((rs.getD i []).getD i' 0 = 46) = !up rs i i' := by
      unfold up
      rcases hc with hc | hc <;> rw [hc] <;> rfl
    simp only [startD, List.map, List.replicate, List.length, Nat.reduceSub, Nat.reduceAdd, List.cons_append, List.nil_append, List.append_nil, sSeq_ap, sIf_ap, sRet_ap, sExp_ap, sNil_ap, sPar_ap, sPar3_ap, sAsg_ap, gN_ap, sFor_ap, dC_ap, dVar0, dVarS, set0, setS, dOp_ap, dOp1_ap, dTst_ap, isB_bl, dChain_ap, tAndD_ap, tOrD_ap, tNotD_ap, dAnd_ap, dOr_ap, dNot_ap, dIf_ap, aNil_ap, aCons_ap, dTup_ap, dLst_ap, dNew_ap, dB_ap, dM_ap, dMK_ap, dFn_ap, dSl_ap, dRev_ap, dDS_ap, dDct_ap, dDGet_ap, dOpN_ap, dLenSet_ap, dTupRg_ap, dListRg_ap, oNone_ap, oSome_ap, iSeq_ap, iA_ap, dComp_ap, dCompNew_ap, bind_ok, toF_ok, seq_nx, seq_rt, lift_s, mGo_s, if_t, if_f, if_true, if_false, Bool.false_eq_true, reduceCtorEq, h0, h1, eqO_str, if_true, if_false, Bool.false_eq_true, BEq.rfl, show (([112, 105, 99, 107] : List Nat) == [101, 110, 100]) = false from rfl, row_at (w := w) hi, cell h hi hi', e1, e2]
    exact exitE0 (n := 1) rfl
  · simp only [startD, List.map, List.replicate, List.length, Nat.reduceSub, Nat.reduceAdd, List.cons_append, List.nil_append, List.append_nil, sSeq_ap, sIf_ap, sRet_ap, sExp_ap, sNil_ap, sPar_ap, sPar3_ap, sAsg_ap, gN_ap, sFor_ap, dC_ap, dVar0, dVarS, set0, setS, dOp_ap, dOp1_ap, dTst_ap, isB_bl, dChain_ap, tAndD_ap, tOrD_ap, tNotD_ap, dAnd_ap, dOr_ap, dNot_ap, dIf_ap, aNil_ap, aCons_ap, dTup_ap, dLst_ap, dNew_ap, dB_ap, dM_ap, dMK_ap, dFn_ap, dSl_ap, dRev_ap, dDS_ap, dDct_ap, dDGet_ap, dOpN_ap, dLenSet_ap, dTupRg_ap, dListRg_ap, oNone_ap, oSome_ap, iSeq_ap, iA_ap, dComp_ap, dCompNew_ap, bind_ok, toF_ok, seq_nx, seq_rt, lift_s, mGo_s, if_t, if_f, if_true, if_false, Bool.false_eq_true, reduceCtorEq, h0, h1, eqO_str, if_true, if_false, Bool.false_eq_true, BEq.rfl]
    exact exitE0 (n := 1) rfl
theorem over_ok {w : Nat} {rs : List (List Nat)} (h : CC w rs) {k k' : Bool} {i i' : Nat} (hi : (k = false ∧ i < w) ∨ (k = true ∧ i < rs.length)) (hi' : (k' = false ∧ i' < w) ∨ (k' = true ∧ i' < rs.length)) (s : Sto) : G_is_over [clD rs, thD k i, thD k' i'] s = .ok (.bl (ovT rs k i k' i')) s := by
  unfold G_is_over
  rw [runB_ap 3 3 _ _ _ rfl]
  unfold B_is_over
  simp only [startD, List.map, List.replicate, List.length, Nat.reduceSub, Nat.reduceAdd, List.cons_append, List.nil_append, List.append_nil, sSeq_ap, sIf_ap, sRet_ap, sExp_ap, sNil_ap, sPar_ap, sPar3_ap, sAsg_ap, gN_ap, sFor_ap, dC_ap, dVar0, dVarS, set0, setS, dOp_ap, dOp1_ap, dTst_ap, isB_bl, dChain_ap, tAndD_ap, tOrD_ap, tNotD_ap, dAnd_ap, dOr_ap, dNot_ap, dIf_ap, aNil_ap, aCons_ap, dTup_ap, dLst_ap, dNew_ap, dB_ap, dM_ap, dMK_ap, dFn_ap, dSl_ap, dRev_ap, dDS_ap, dDct_ap, dDGet_ap, dOpN_ap, dLenSet_ap, dTupRg_ap, dListRg_ap, oNone_ap, oSome_ap, iSeq_ap, iA_ap, dComp_ap, dCompNew_ap, bind_ok, toF_ok, seq_nx, seq_rt, lift_s, mGo_s, if_t, if_f, if_true, if_false, Bool.false_eq_true, reduceCtorEq, needc_ok h, needT_ok h hi, needT_ok h hi', lies_ok h hi hi']
  exact exitE0 (n := 1) rfl
theorem threadsOf_ok {w : Nat} {rs : List (List Nat)} (h : CC w rs) (s : Sto) : G_threads_of [clD rs] s = .ok (.tup (thsD w rs.length)) s := by
  have hw2 := h.w2
  have hh2 := h.h2
  unfold G_threads_of
  rw [runB_ap 1 1 _ _ _ rfl]
  unfold B_threads_of
  simp only [startD, List.map, List.replicate, List.length, Nat.reduceSub, Nat.reduceAdd, List.cons_append, List.nil_append, List.append_nil, sSeq_ap, sIf_ap, sRet_ap, sExp_ap, sNil_ap, sPar_ap, sPar3_ap, sAsg_ap, gN_ap, sFor_ap, dC_ap, dVar0, dVarS, set0, setS, dOp_ap, dOp1_ap, dTst_ap, isB_bl, dChain_ap, tAndD_ap, tOrD_ap, tNotD_ap, dAnd_ap, dOr_ap, dNot_ap, dIf_ap, aNil_ap, aCons_ap, dTup_ap, dLst_ap, dNew_ap, dB_ap, dM_ap, dMK_ap, dFn_ap, dSl_ap, dRev_ap, dDS_ap, dDct_ap, dDGet_ap, dOpN_ap, dLenSet_ap, dTupRg_ap, dListRg_ap, oNone_ap, oSome_ap, iSeq_ap, iA_ap, dComp_ap, dCompNew_ap, bind_ok, toF_ok, seq_nx, seq_rt, lift_s, mGo_s, if_t, if_f, if_true, if_false, Bool.false_eq_true, reduceCtorEq, needc_ok h, threads_ok h, tupleD2, sqA]
  exact exitE0 (n := 2) (lk_tupI (by rw [ths_len]; omega) (th_lk w rs.length))
end K01

set_option Elab.async false
set_option linter.all false
set_option maxRecDepth 100000
set_option maxHeartbeats 2000000
namespace K01
open Z L2
/-! ### the canvas -/
def pk (p e : Nat) : D := .tup [.int (p : Int), .int (e : Int)]
theorem pk_inj {p e p' e' : Nat} (h : pk p e = pk p' e') : p = p' ∧ e = e' := by
  unfold pk at h
  simp only [D.tup.injEq, List.cons.injEq, D.int.injEq, and_true] at h
  omega
/-- a table of the crossings -/
structure Tb (hh w : Nat) (f : Nat → Nat → Bool) (ks vs : List D) : Prop where
  len : ks.length = vs.length
  key : ∀ k ∈ ks, ∃ p e, p < hh ∧ e < w ∧ k = pk p e
  val : ∀ v ∈ vs, ∃ b, v = .bl b
  at_ : ∀ p e b, dget ks vs (pk p e) = some b → b = .bl (f p e)
theorem Tb.nil {hh w : Nat} {f : Nat → Nat → Bool} : Tb hh w f [] [] := ⟨rfl, fun _ h => (nomatch h), fun _ h => (nomatch h), fun p e b h => by simp [dget] at h⟩
theorem Tb.put {hh w : Nat} {f : Nat → Nat → Bool} {ks vs : List D} (t : Tb hh w f ks vs) {p e : Nat} (hp : p < hh) (he : e < w) : Tb hh w f (dput ks vs (pk p e) (.bl (f p e))).1 (dput ks vs (pk p e) (.bl (f p e))).2 := by
  refine ⟨dput_len t.len _ _, fun k hk => ?_, fun v hv => ?_, fun p' e' b hb => ?_⟩
  · rcases dput_mem.mp hk with rfl | hk
    · exact ⟨p, e, hp, he, rfl⟩
    · exact t.key k hk
  · rcases dput_val hv with rfl | hv
    · exact ⟨_, rfl⟩
    · exact t.val v hv
  · rw [dget_dput t.len] at hb
    split at hb
    · rename_i h
      obtain ⟨rfl, rfl⟩ := pk_inj h
      cases hb; rfl
    · exact t.at_ p' e' b hb
theorem Tb.get {hh w : Nat} {f : Nat → Nat → Bool} {ks vs : List D} (t : Tb hh w f ks vs) {p e : Nat} (h : pk p e ∈ ks) : dget ks vs (pk p e) = some (.bl (f p e)) := by
  obtain ⟨v, hv⟩ := dget_some t.len h
  rw [hv, t.at_ p e v hv]
theorem canvas_ok {w : Nat} {rs : List (List Nat)} (h : CC w rs) {s : Sto} (hs : Sk s) : ∃ ks vs, G__law_canvas [clD rs] s = .ok (.dic true ks vs) s ∧ Tb rs.length w (up rs) ks vs ∧ ks.length ≤ 144 ∧ ∀ p e, p < rs.length → e < w → pk p e ∈ ks := by
  have hw2 := h.w2
  have hh2 := h.h2
  have hi : ∀ s, enumA2 [clD rs] s = some (enumL (rs.map D.str), []) := fun _ => rfl
  unfold G__law_canvas
  rw [runB_ap 1 6 _ _ _ rfl]
  unfold B__law_canvas
  simp only [startD, List.map, List.replicate, List.length, Nat.reduceSub, Nat.reduceAdd, List.cons_append, List.nil_append, List.append_nil, sSeq_ap, sIf_ap, sRet_ap, sExp_ap, sNil_ap, sPar_ap, sPar3_ap, sAsg_ap, gN_ap, sFor_ap, dC_ap, dVar0, dVarS, set0, setS, dOp_ap, dOp1_ap, dTst_ap, isB_bl, dChain_ap, tAndD_ap, tOrD_ap, tNotD_ap, dAnd_ap, dOr_ap, dNot_ap, dIf_ap, aNil_ap, aCons_ap, dTup_ap, dLst_ap, dNew_ap, dB_ap, dM_ap, dMK_ap, dFn_ap, dSl_ap, dRev_ap, dDS_ap, dDct_ap, dDGet_ap, dOpN_ap, dLenSet_ap, dTupRg_ap, dListRg_ap, oNone_ap, oSome_ap, iSeq_ap, iA_ap, dComp_ap, dCompNew_ap, bind_ok, toF_ok, seq_nx, seq_rt, lift_s, mGo_s, if_t, if_f, if_true, if_false, Bool.false_eq_true, reduceCtorEq, dDnew_ap, hi]
  obtain ⟨ρ1, s1, e1, ⟨ks, vs, rfl, tb, hl, hall, v2, v3, v4, v5, rfl⟩⟩ := for_inv (t := gTupD 2 (gsCons (gN 2) (gsCons (gN 3) gsNil))) (body := L2__law_canvas) (g := [])
    (fun i ρ s' => ∃ ks vs, s' = s ++ [.dic true ks vs] ∧ Tb rs.length w (up rs) ks vs ∧ ks.length ≤ 12 * i ∧ (∀ p e, p < i → e < w → pk p e ∈ ks) ∧ ∃ v2 v3 v4 v5, ρ = [some (clD rs), some (.obj s.length), v2, v3, v4, v5]) (fun _ _ _ _ => rfl)
    (enumL (rs.map D.str)) [some (clD rs), some (.obj s.length), none, none, none, none] (s ++ [.dic true [] []]) ⟨[], [], rfl, .nil, Nat.le_refl _, fun p e hp => absurd hp (Nat.not_lt_zero _), none, none, none, none, rfl⟩ (fun i d hd ρ s' ⟨ks, vs, hs', tb, hl, hall, v2, v3, v4, v5, hρ⟩ => by
      subst hs' hρ
      have hil : i < rs.length := by
        have := (List.getElem?_eq_some_iff.mp hd).1
        rw [enumL_len, List.length_map] at this; exact this
      have hrow : (rs.map D.str)[i]? = some (.str (rs.getD i [])) := by
        rw [List.getElem?_map, List.getD_eq_getElem?_getD, List.getElem?_eq_getElem hil]; rfl
      have hd' := enumL_get (rs.map D.str) i _ hrow
      rw [hd] at hd'
      cases hd'
      have hr := rowg h hil
      have hi2 : ∀ s, enumA2 [.str (rs.getD i [])] s = some (enumL ((rs.getD i []).map fun c => .str [c]), []) := fun _ => rfl
      refine ⟨_, _, rfl, ?_⟩
      unfold L2__law_canvas
      simp only [sSeq_ap, sIf_ap, sRet_ap, sExp_ap, sNil_ap, sPar_ap, sPar3_ap, sAsg_ap, gN_ap, sFor_ap, dC_ap, dVar0, dVarS, set0, setS, dOp_ap, dOp1_ap, dTst_ap, isB_bl, dChain_ap, tAndD_ap, tOrD_ap, tNotD_ap, dAnd_ap, dOr_ap, dNot_ap, dIf_ap, aNil_ap, aCons_ap, dTup_ap, dLst_ap, dNew_ap, dB_ap, dM_ap, dMK_ap, dFn_ap, dSl_ap, dRev_ap, dDS_ap, dDct_ap, dDGet_ap, dOpN_ap, dLenSet_ap, dTupRg_ap, dListRg_ap, oNone_ap, oSome_ap, iSeq_ap, iA_ap, dComp_ap, dCompNew_ap, bind_ok, toF_ok, seq_nx, seq_rt, lift_s, mGo_s, if_t, if_f, if_true, if_false, Bool.false_eq_true, reduceCtorEq, hi2]
      obtain ⟨ρ1, s1, e1, ⟨ks', vs', rfl, tb', hl', hall', u4, u5, rfl⟩⟩ := for_inv (t := gTupD 2 (gsCons (gN 4) (gsCons (gN 5) gsNil))) (body := L1__law_canvas) (g := [])
        (fun j ρ s' => ∃ ks vs, s' = s ++ [.dic true ks vs] ∧ Tb rs.length w (up rs) ks vs ∧ ks.length ≤ 12 * i + j ∧ (∀ p e, (p < i ∧ e < w) ∨ (p = i ∧ e < j) → pk p e ∈ ks) ∧ ∃ v4 v5, ρ = [some (clD rs), some (.obj s.length), some (.int (i : Int)), some (.str (rs.getD i [])), v4, v5]) (fun _ _ _ _ => rfl)
        (enumL ((rs.getD i []).map fun c => .str [c])) [some (clD rs), some (.obj s.length), some (.int (i : Int)), some (.str (rs.getD i [])), v4, v5] (s ++ [.dic true ks vs]) ⟨ks, vs, rfl, tb, hl, fun p e hp => by
          rcases hp with hp | hp
          · exact hall p e hp.1 hp.2
          · exact absurd hp.2 (Nat.not_lt_zero _), v4, v5, rfl⟩ (fun j d hd ρ s' ⟨ks, vs, hs', tb, hl, hall, v4, v5, hρ⟩ => by
          subst hs' hρ
          have hjl : j < w := by
            have := (List.getElem?_eq_some_iff.mp hd).1
            rw [enumL_len, List.length_map, hr.1] at this; exact this
          have hc : ((rs.getD i []).map fun c => D.str [c])[j]? = some (.str [(rs.getD i []).getD j 0]) := by
            have : j < (rs.getD i []).length := by rw [hr.1]; exact hjl
            rw [List.getElem?_map, List.getElem?_eq_getElem this, List.getD_eq_getElem?_getD (l := rs.getD i []), List.getElem?_eq_getElem this]; rfl
          have hd' := enumL_get _ j _ hc
          rw [hd] at hd'
          cases hd'
          refine ⟨_, _, rfl, ?_⟩
          unfold L1__law_canvas
          have hu : ([(rs.getD i []).getD j 0] == [35]) = up rs i j := eq1' _ _
          have hst := setDT_ap (n := s.length) (is := [.int (i : Int), .int (j : Int)]) (d := .bl (up rs i j)) (s := s ++ [.dic true ks vs]) (ks := ks) (vs := vs) (by simp) rfl (by omega) (by simp)
          rw [List.set_append_right _ _ (Nat.le_refl _), Nat.sub_self] at hst
          rw [sAsg_ap]
          simp only [sSeq_ap, sIf_ap, sRet_ap, sExp_ap, sNil_ap, sPar_ap, sPar3_ap, sAsg_ap, gN_ap, sFor_ap, dC_ap, dVar0, dVarS, set0, setS, dOp_ap, dOp1_ap, dTst_ap, isB_bl, dChain_ap, tAndD_ap, tOrD_ap, tNotD_ap, dAnd_ap, dOr_ap, dNot_ap, dIf_ap, aNil_ap, aCons_ap, dTup_ap, dLst_ap, dNew_ap, dB_ap, dM_ap, dMK_ap, dFn_ap, dSl_ap, dRev_ap, dDS_ap, dDct_ap, dDGet_ap, dOpN_ap, dLenSet_ap, dTupRg_ap, dListRg_ap, oNone_ap, oSome_ap, iSeq_ap, iA_ap, dComp_ap, dCompNew_ap, bind_ok, toF_ok, seq_nx, seq_rt, lift_s, mGo_s, if_t, if_f, if_true, if_false, Bool.false_eq_true, reduceCtorEq, eqO_str, hu]
          rw [gSubDT_ap (s1 := s ++ [.dic true ks vs]) (s2 := s ++ [.dic true ks vs]) rfl rfl hst]
          refine ⟨_, _, rfl, _, _, rfl, tb.put hil hjl, Nat.le_trans (dput_le _ _ _ _) (by omega), fun p e hp => dput_mem.mpr ?_, _, _, rfl⟩
          by_cases z : p = i ∧ e = j
          · left; rw [z.1, z.2]; rfl
          · right
            refine hall p e ?_
            omega)
      rw [e1]
      rw [enumL_len, List.length_map, hr.1] at hl' hall'
      refine ⟨_, _, rfl, _, _, rfl, tb', by omega, fun p e hp he => hall' p e (by omega), _, _, _, _, rfl⟩)
  rw [e1]
  rw [enumL_len, List.length_map] at hl hall
  simp only [sSeq_ap, sIf_ap, sRet_ap, sExp_ap, sNil_ap, sPar_ap, sPar3_ap, sAsg_ap, gN_ap, sFor_ap, dC_ap, dVar0, dVarS, set0, setS, dOp_ap, dOp1_ap, dTst_ap, isB_bl, dChain_ap, tAndD_ap, tOrD_ap, tNotD_ap, dAnd_ap, dOr_ap, dNot_ap, dIf_ap, aNil_ap, aCons_ap, dTup_ap, dLst_ap, dNew_ap, dB_ap, dM_ap, dMK_ap, dFn_ap, dSl_ap, dRev_ap, dDS_ap, dDct_ap, dDGet_ap, dOpN_ap, dLenSet_ap, dTupRg_ap, dListRg_ap, oNone_ap, oSome_ap, iSeq_ap, iA_ap, dComp_ap, dCompNew_ap, bind_ok, toF_ok, seq_nx, seq_rt, lift_s, mGo_s, if_t, if_f, if_true, if_false, Bool.false_eq_true, reduceCtorEq]
  refine ⟨ks, vs, exit_dic hs (fun x hx => ?_), tb, by omega, hall⟩
  obtain ⟨b, rfl⟩ := tb.val x hx
  rfl
end K01

set_option Elab.async false
set_option linter.all false
set_option maxRecDepth 100000
set_option maxHeartbeats 2000000
namespace K01
open Z L2
/-! ### cloths of crossings -/
def rws (P E : Nat) (f : Nat → Nat → Bool) : List (List Nat) := (List.range P).map fun p => (List.range E).map fun e => if f p e = true then 35 else 46
theorem range_getD {α β : Type} (g : α → β) (d : α) (xs : List α) : (List.range xs.length).map (fun i => g (xs.getD i d)) = xs.map g := by
  apply List.ext_getElem
  · simp
  · intro i h1 h2
    simp at h1 h2
    simp [h1]
theorem rws_tn {w : Nat} {rs : List (List Nat)} (h : CC w rs) : rws w rs.length (fun e p => !up rs p e) = tn w rs := by
  unfold rws tn
  refine List.map_congr_left fun e he => ?_
  have he := List.mem_range.mp he
  rw [← range_getD (fun r => fl (r.getD e 0)) [] rs]
  refine List.map_congr_left fun p hp => ?_
  have hc := cell_sc h (List.mem_range.mp hp) he
  show (if (!up rs p e) = true then 35 else 46) = _
  unfold up
  rcases hc with hc | hc <;> rw [hc] <;> rfl
theorem rws_bk {w : Nat} {rs : List (List Nat)} (h : CC w rs) : rws rs.length w (fun p e => !up rs p (w - 1 - e)) = bk rs := by
  unfold rws bk
  rw [← range_getD (fun r : List Nat => r.reverse.map fl) [] rs]
  refine List.map_congr_left fun p hp => ?_
  have hp := List.mem_range.mp hp
  have hr := rowg h hp
  apply List.ext_getElem
  · rw [List.length_map, List.length_range, List.length_map, List.length_reverse, hr.1]
  · intro i h1 h2
    rw [List.length_map, List.length_range] at h1
    have hi : w - 1 - i < w := by omega
    have hc := cell_sc h hp hi
    have hg : (rs.getD p [])[(rs.getD p []).length - 1 - i]'(by have := hr.1; omega) = (rs.getD p []).getD (w - 1 - i) 0 := by
      rw [List.getD_eq_getElem?_getD (l := rs.getD p []), List.getElem?_eq_getElem (by rw [hr.1]; exact hi)]
      simp only [hr.1, Option.getD_some]
    rw [List.getElem_map, List.getElem_map, List.getElem_range, List.getElem_reverse, hg]
    show (if (!up rs p (w - 1 - i)) = true then 35 else 46) = _
    unfold up
    rcases hc with hc | hc <;> rw [hc] <;> rfl
theorem rws_CC {P E : Nat} (f : Nat → Nat → Bool) (h1 : 1 ≤ P) (h2 : P ≤ 12) (h3 : 1 ≤ E) (h4 : E ≤ 12) : CC E (rws P E f) := by
  refine ⟨fun r hr => ?_, h3, h4, by simp [rws, h1], by simp [rws, h2]⟩
  obtain ⟨p, hp, rfl⟩ := List.mem_map.mp hr
  refine ⟨by simp, fun c hc => ?_⟩
  obtain ⟨e, he, rfl⟩ := List.mem_map.mp hc
  by_cases hf : f p e = true
  · rw [if_pos hf]; exact .inl rfl
  · rw [if_neg hf]; exact .inr rfl
theorem tn_CC {w : Nat} {rs : List (List Nat)} (h : CC w rs) : CC rs.length (tn w rs) := by
  rw [← rws_tn h]; exact rws_CC _ h.w1 h.w2 h.h1 h.h2
theorem bk_CC {w : Nat} {rs : List (List Nat)} (h : CC w rs) : CC w (bk rs) := by
  rw [← rws_bk h]; exact rws_CC _ h.h1 h.h2 h.w1 h.w2
theorem rev_CC {w : Nat} {rs : List (List Nat)} (h : CC w rs) : CC w rs.reverse := ⟨fun r hr => h.row r (List.mem_reverse.mp hr), h.w1, h.w2, by rw [List.length_reverse]; exact h.h1, by rw [List.length_reverse]; exact h.h2⟩
theorem tn_len (w : Nat) (rs : List (List Nat)) : (tn w rs).length = w := by simp [tn]
theorem tn_tn {w : Nat} {rs : List (List Nat)} (h : CC w rs) : tn rs.length (tn w rs) = rs := by
  unfold tn
  apply List.ext_getElem
  · simp
  · intro p h1 h2
    rw [List.getElem_map, List.getElem_range, List.map_map]
    have hr := h.row _ (List.getElem_mem h2)
    apply List.ext_getElem
    · simp [hr.1]
    · intro e h3 h4
      rw [List.getElem_map, List.getElem_range]
      simp only [Function.comp_apply]
      rw [List.getD_eq_getElem?_getD, List.getElem?_map, List.getElem?_eq_getElem h2, Option.map_some, Option.getD_some, List.getD_eq_getElem?_getD, List.getElem?_eq_getElem h4, Option.getD_some]
      exact fl_fl (hr.2 _ (List.getElem_mem h4))
theorem bk_bk {w : Nat} {rs : List (List Nat)} (h : CC w rs) : bk (bk rs) = rs := by
  unfold bk
  rw [List.map_map]
  refine (List.map_congr_left fun r hr => ?_).trans (List.map_id _)
  show ((r.reverse.map fl).reverse.map fl) = r
  simp only [List.map_reverse, List.reverse_reverse, List.map_map]
  exact (List.map_congr_left fun c hc => fl_fl ((h.row r hr).2 c hc)).trans (List.map_id _)
theorem tn_bk {w : Nat} {rs : List (List Nat)} (h : CC w rs) : tn w (bk rs) = (bk (tn w rs.reverse)).reverse := by
  unfold tn bk
  apply List.ext_getElem
  · simp
  · intro e h1 h2
    have he : e < w := by simpa using h1
    rw [List.getElem_map, List.getElem_range, List.map_map, List.getElem_reverse, List.getElem_map, List.getElem_map, List.getElem_range]
    simp only [List.map_reverse, List.reverse_reverse, List.map_map, List.length_map, List.length_range]
    refine List.map_congr_left fun r hr => ?_
    have hl := (h.row r hr).1
    simp only [Function.comp_apply, List.length_map, List.length_range]
    rw [List.getD_eq_getElem?_getD, ← List.map_reverse, List.getElem?_map, List.getElem?_reverse (by omega), hl, List.getElem?_eq_getElem (by omega), Option.map_some, Option.getD_some]
    rw [List.getD_eq_getElem?_getD, List.getElem?_eq_getElem (by omega), Option.getD_some]
/-! ### the cloth of a canvas -/
def cellD (f : Nat → Nat → Bool) (p : Nat) (d : D) : D := match d with
  | .int e => .str [if f p e.toNat = true then 35 else 46]
  | _ => .non
def rowD (f : Nat → Nat → Bool) (E : Nat) (d : D) : D := match d with
  | .int p => .str ((List.range E).map fun e => if f p.toNat e = true then 35 else 46)
  | _ => .non
theorem seen_ok {P E n : Nat} {f : Nat → Nat → Bool} {ks vs : List D} {s : Sto} (hn : s[n]? = some (.dic true ks vs)) (hP : P ≤ 12) (hE : E ≤ 12) (hg : ∀ p e, p < P → e < E → dget ks vs (pk p e) = some (.bl (f p e))) :
    G__law_seen [.obj n, .int (P : Int), .int (E : Int)] s = .ok (clD (rws P E f)) s := by
  unfold G__law_seen
  rw [runB_ap 3 5 _ _ _ rfl]
  unfold B__law_seen
  simp only [startD, List.map, List.replicate, List.length, Nat.reduceSub, Nat.reduceAdd, List.cons_append, List.nil_append, List.append_nil, sSeq_ap, sIf_ap, sRet_ap, sExp_ap, sNil_ap, sPar_ap, sPar3_ap, sAsg_ap, gN_ap, sFor_ap, dC_ap, dVar0, dVarS, set0, setS, dOp_ap, dOp1_ap, dTst_ap, isB_bl, dChain_ap, tAndD_ap, tOrD_ap, tNotD_ap, dAnd_ap, dOr_ap, dNot_ap, dIf_ap, aNil_ap, aCons_ap, dTup_ap, dLst_ap, dNew_ap, dB_ap, dM_ap, dMK_ap, dFn_ap, dSl_ap, dRev_ap, dDS_ap, dDct_ap, dDGet_ap, dOpN_ap, dLenSet_ap, dTupRg_ap, dListRg_ap, oNone_ap, oSome_ap, iSeq_ap, iA_ap, dComp_ap, dCompNew_ap, bind_ok, toF_ok, seq_nx, seq_rt, lift_s, mGo_s, if_t, if_f, if_true, if_false, Bool.false_eq_true, reduceCtorEq, rng1L (n := P) _ (by omega)]
  rw [cmp_all (h := rowD f E) rfl _ (fun d hd => by
    obtain ⟨p, hp, rfl⟩ := rngL_mem hd
    refine ⟨_, rfl, ?_⟩
    unfold E2__law_seen
    simp only [sSeq_ap, sIf_ap, sRet_ap, sExp_ap, sNil_ap, sPar_ap, sPar3_ap, sAsg_ap, gN_ap, sFor_ap, dC_ap, dVar0, dVarS, set0, setS, dOp_ap, dOp1_ap, dTst_ap, isB_bl, dChain_ap, tAndD_ap, tOrD_ap, tNotD_ap, dAnd_ap, dOr_ap, dNot_ap, dIf_ap, aNil_ap, aCons_ap, dTup_ap, dLst_ap, dNew_ap, dB_ap, dM_ap, dMK_ap, dFn_ap, dSl_ap, dRev_ap, dDS_ap, dDct_ap, dDGet_ap, dOpN_ap, dLenSet_ap, dTupRg_ap, dListRg_ap, oNone_ap, oSome_ap, iSeq_ap, iA_ap, dComp_ap, dCompNew_ap, bind_ok, toF_ok, seq_nx, seq_rt, lift_s, mGo_s, if_t, if_f, if_true, if_false, Bool.false_eq_true, reduceCtorEq, wipeD, Int.zero_add, rng1L (n := E) _ (show E < 1000000 by omega)]
    rw [cmp_all (h := cellD f p) rfl _ (fun d hd => by
      obtain ⟨e, he, rfl⟩ := rngL_mem hd
      refine ⟨_, rfl, ?_⟩
      have hx : ixD2 (.obj n) (.tup [.int (p : Int), .int (e : Int)]) s = some (.bl (f p e)) := (ixD2_obj hn rfl).trans (hg p e hp he)
      unfold E1__law_seen
      by_cases hf : f p e = true
      · simp only [sSeq_ap, sIf_ap, sRet_ap, sExp_ap, sNil_ap, sPar_ap, sPar3_ap, sAsg_ap, gN_ap, sFor_ap, dC_ap, dVar0, dVarS, set0, setS, dOp_ap, dOp1_ap, dTst_ap, isB_bl, dChain_ap, tAndD_ap, tOrD_ap, tNotD_ap, dAnd_ap, dOr_ap, dNot_ap, dIf_ap, aNil_ap, aCons_ap, dTup_ap, dLst_ap, dNew_ap, dB_ap, dM_ap, dMK_ap, dFn_ap, dSl_ap, dRev_ap, dDS_ap, dDct_ap, dDGet_ap, dOpN_ap, dLenSet_ap, dTupRg_ap, dListRg_ap, oNone_ap, oSome_ap, iSeq_ap, iA_ap, dComp_ap, dCompNew_ap, bind_ok, toF_ok, seq_nx, seq_rt, lift_s, mGo_s, if_t, if_f, if_true, if_false, Bool.false_eq_true, reduceCtorEq, wipeD, List.length, Nat.reduceAdd, Nat.reduceLeDiff, Int.zero_add, hx, hf, cellD, Int.toNat_natCast]
      · rw [Bool.not_eq_true] at hf
        simp only [sSeq_ap, sIf_ap, sRet_ap, sExp_ap, sNil_ap, sPar_ap, sPar3_ap, sAsg_ap, gN_ap, sFor_ap, dC_ap, dVar0, dVarS, set0, setS, dOp_ap, dOp1_ap, dTst_ap, isB_bl, dChain_ap, tAndD_ap, tOrD_ap, tNotD_ap, dAnd_ap, dOr_ap, dNot_ap, dIf_ap, aNil_ap, aCons_ap, dTup_ap, dLst_ap, dNew_ap, dB_ap, dM_ap, dMK_ap, dFn_ap, dSl_ap, dRev_ap, dDS_ap, dDct_ap, dDGet_ap, dOpN_ap, dLenSet_ap, dTupRg_ap, dListRg_ap, oNone_ap, oSome_ap, iSeq_ap, iA_ap, dComp_ap, dCompNew_ap, bind_ok, toF_ok, seq_nx, seq_rt, lift_s, mGo_s, if_t, if_f, if_true, if_false, Bool.false_eq_true, reduceCtorEq, wipeD, List.length, Nat.reduceAdd, Nat.reduceLeDiff, Int.zero_add, hx, hf, cellD, Int.toNat_natCast]
        first | done | rfl) (by rw [rngL_len]; omega)]
    have hm : (rngL E).map (cellD f p) = ((List.range E).map fun e => if f p e = true then 35 else 46).map fun c => D.str [c] := by
      unfold rngL
      rw [List.map_map, List.map_map]
      refine List.map_congr_left fun e _ => ?_
      show D.str [if f p (0 + (e : Int)).toNat = true then 35 else 46] = _
      rw [show (0 + (e : Int)).toNat = e by omega]; rfl
    rw [hm]
    simp only [sSeq_ap, sIf_ap, sRet_ap, sExp_ap, sNil_ap, sPar_ap, sPar3_ap, sAsg_ap, gN_ap, sFor_ap, dC_ap, dVar0, dVarS, set0, setS, dOp_ap, dOp1_ap, dTst_ap, isB_bl, dChain_ap, tAndD_ap, tOrD_ap, tNotD_ap, dAnd_ap, dOr_ap, dNot_ap, dIf_ap, aNil_ap, aCons_ap, dTup_ap, dLst_ap, dNew_ap, dB_ap, dM_ap, dMK_ap, dFn_ap, dSl_ap, dRev_ap, dDS_ap, dDct_ap, dDGet_ap, dOpN_ap, dLenSet_ap, dTupRg_ap, dListRg_ap, oNone_ap, oSome_ap, iSeq_ap, iA_ap, dComp_ap, dCompNew_ap, bind_ok, toF_ok, seq_nx, seq_rt, lift_s, mGo_s, if_t, if_f, if_true, if_false, Bool.false_eq_true, reduceCtorEq, tyD_str, chars_join (r := (List.range E).map fun e => if f p e = true then 35 else 46) (by rw [List.length_map, List.length_range]; omega)]
    show _ = R.ok (D.str ((List.range E).map fun e => if f (p : Int).toNat e = true then 35 else 46)) s
    rw [Int.toNat_natCast]) (by rw [rngL_len]; omega)]
  rw [show (rngL P).map (rowD f E) = (rws P E f).map D.str by
    unfold rngL rws
    rw [List.map_map, List.map_map]
    refine List.map_congr_left fun p _ => ?_
    show D.str ((List.range E).map fun e => if f (0 + (p : Int)).toNat e = true then 35 else 46) = _
    rw [show (0 + (p : Int)).toNat = p by omega]; rfl]
  simp only [sSeq_ap, sIf_ap, sRet_ap, sExp_ap, sNil_ap, sPar_ap, sPar3_ap, sAsg_ap, gN_ap, sFor_ap, dC_ap, dVar0, dVarS, set0, setS, dOp_ap, dOp1_ap, dTst_ap, isB_bl, dChain_ap, tAndD_ap, tOrD_ap, tNotD_ap, dAnd_ap, dOr_ap, dNot_ap, dIf_ap, aNil_ap, aCons_ap, dTup_ap, dLst_ap, dNew_ap, dB_ap, dM_ap, dMK_ap, dFn_ap, dSl_ap, dRev_ap, dDS_ap, dDct_ap, dDGet_ap, dOpN_ap, dLenSet_ap, dTupRg_ap, dListRg_ap, oNone_ap, oSome_ap, iSeq_ap, iA_ap, dComp_ap, dCompNew_ap, bind_ok, toF_ok, seq_nx, seq_rt, lift_s, mGo_s, if_t, if_f, if_true, if_false, Bool.false_eq_true, reduceCtorEq, tupleD2, sqA]
  refine exitE0 (n := 1) (lk_tupI (by rw [List.length_map]; unfold rws; rw [List.length_map, List.length_range]; omega) fun d hd => ?_)
  obtain ⟨r, hr, rfl⟩ := List.mem_map.mp hd
  unfold rws at hr
  obtain ⟨e, _, rfl⟩ := List.mem_map.mp hr
  exact lk_str (by rw [List.length_map, List.length_range]; omega)
/-! ### the two tables -/
theorem tables_ok {w : Nat} {rs : List (List Nat)} (h : CC w rs) {ks vs : List D} (tb : Tb rs.length w (up rs) ks vs) (hl : ks.length ≤ 144) {c : O} (v5 v6 v7 v8 v9 v10 : Option D) :
    ∃ k1 v1 k2 v2 v7' v8', forD (gTupD 2 (gsCons (gN 7) (gsCons (gN 8) gsNil))) L2__law_right [] ks [some (.obj 0), some (clD rs), some (.int (rs.length : Int)), some (.int (w : Int)), some (.dic true ks vs), v5, v6, v7, v8, v9, v10, some (.obj 1), some (.obj 2), none, none] [c, .dic true [] [], .dic true [] []] =
      .nx [some (.obj 0), some (clD rs), some (.int (rs.length : Int)), some (.int (w : Int)), some (.dic true ks vs), v5, v6, v7', v8', v9, v10, some (.obj 1), some (.obj 2), none, none] [c, .dic true k1 v1, .dic true k2 v2] ∧
      Tb w rs.length (fun e p => !up rs p e) k1 v1 ∧ Tb rs.length w (fun p e => !up rs p (w - 1 - e)) k2 v2 ∧ ∀ p e, pk p e ∈ ks → p < rs.length → e < w → pk e p ∈ k1 ∧ pk p (w - 1 - e) ∈ k2 := by
  obtain ⟨ρ', s', e1, ⟨k1, v1, k2, v2, rfl, t1, t2, l1, l2, hall, v7', v8', rfl⟩⟩ := for_inv (t := gTupD 2 (gsCons (gN 7) (gsCons (gN 8) gsNil))) (body := L2__law_right) (g := [])
    (fun i ρ s => ∃ k1 v1 k2 v2, s = [c, .dic true k1 v1, .dic true k2 v2] ∧ Tb w rs.length (fun e p => !up rs p e) k1 v1 ∧ Tb rs.length w (fun p e => !up rs p (w - 1 - e)) k2 v2 ∧ k1.length ≤ i ∧ k2.length ≤ i ∧ (∀ j, j < i → ∀ p e, ks[j]? = some (pk p e) → pk e p ∈ k1 ∧ pk p (w - 1 - e) ∈ k2) ∧
      ∃ v7 v8, ρ = [some (.obj 0), some (clD rs), some (.int (rs.length : Int)), some (.int (w : Int)), some (.dic true ks vs), v5, v6, v7, v8, v9, v10, some (.obj 1), some (.obj 2), none, none]) (fun _ _ _ _ => rfl)
    ks _ _ ⟨[], [], [], [], rfl, .nil, .nil, Nat.le_refl _, Nat.le_refl _, fun j hj => absurd hj (Nat.not_lt_zero _), v7, v8, rfl⟩ (fun i d hd ρ s ⟨k1, v1, k2, v2, hs, t1, t2, l1, l2, hall, v7, v8, hρ⟩ => by
      subst hs hρ
      obtain ⟨p, e, hp, he, rfl⟩ := tb.key d (List.mem_of_getElem? hd)
      have hil : i < ks.length := (List.getElem?_eq_some_iff.mp hd).1
      have hx : ∀ s, ixD2 (.dic true ks vs) (.tup [.int (p : Int), .int (e : Int)]) s = some (.bl (up rs p e)) := fun s => (ixD2_dic rfl).trans (tb.get (List.mem_of_getElem? hd))
      have a1 := setDT_ap (n := 1) (is := [.int (e : Int), .int (p : Int)]) (d := .bl (!up rs p e)) (s := [c, .dic true k1 v1, .dic true k2 v2]) rfl rfl (by omega) (by simp)
      have a2 := setDT_ap (n := 2) (is := [.int (p : Int), .int ((w : Int) - 1 - (e : Int))]) (d := .bl (!up rs p e)) (s := [c, .dic true (dput k1 v1 (pk e p) (.bl (!up rs p e))).1 (dput k1 v1 (pk e p) (.bl (!up rs p e))).2, .dic true k2 v2]) rfl rfl (by omega) (by simp)
      have hw : (w : Int) - 1 - (e : Int) = ((w - 1 - e : Nat) : Int) := by omega
      rw [hw] at a2
      refine ⟨_, _, rfl, ?_⟩
      unfold L2__law_right
      rw [sSeq_ap, sAsg_ap]
      simp only [dNot_ap, dTst_ap, dOp_ap, dTup_ap, aCons_ap, aNil_ap, dVar0, dVarS, bind_ok, List.length, Nat.reduceAdd, Nat.reduceLeDiff, if_true, hx, lift_s, isB_bl, toF_ok, set0, setS]
      rw [gSubDT_ap (s1 := [c, .dic true k1 v1, .dic true k2 v2]) (s2 := [c, .dic true k1 v1, .dic true k2 v2]) rfl rfl a1]
      simp only [seq_nx]
      rw [sAsg_ap]
      simp only [dNot_ap, dTst_ap, dOp_ap, dTup_ap, aCons_ap, aNil_ap, dVar0, dVarS, bind_ok, List.length, Nat.reduceAdd, Nat.reduceLeDiff, if_true, hx, lift_s, isB_bl, toF_ok, set0, setS]
      have hf : ∀ s, (aCons (dVar 7) (aCons (dOp subD (dOp subD (dVar 3) (dC (.int 1))) (dVar 8)) (aNil))) [some (.obj 0), some (clD rs), some (.int (rs.length : Int)), some (.int (w : Int)), some (.dic true ks vs), v5, v6, some (.int (p : Int)), some (.int (e : Int)), v9, v10, some (.obj 1), some (.obj 2), none, none] s = .ok [.int (p : Int), .int ((w - 1 - e : Nat) : Int)] s := fun s => by
        rw [← hw]; rfl
      rw [gSubDT_ap (o := .obj 2) (s1 := [c, .dic true (dput k1 v1 (pk e p) (.bl (!up rs p e))).1 (dput k1 v1 (pk e p) (.bl (!up rs p e))).2, .dic true k2 v2]) (s2 := [c, .dic true (dput k1 v1 (pk e p) (.bl (!up rs p e))).1 (dput k1 v1 (pk e p) (.bl (!up rs p e))).2, .dic true k2 v2]) rfl (hf _) a2]
      have u2 : (!up rs p e) = !up rs p (w - 1 - (w - 1 - e)) := by rw [show w - 1 - (w - 1 - e) = e by omega]
      refine ⟨_, _, rfl, _, _, _, _, rfl, t1.put (f := fun e p => !up rs p e) he hp, ?_, Nat.le_trans (dput_le _ _ _ _) (by omega), Nat.le_trans (dput_le _ _ _ _) (by omega), fun j hj p' e' hj' => ?_, _, _, rfl⟩
      · have := t2.put (f := fun p e => !up rs p (w - 1 - e)) hp (show w - 1 - e < w by omega)
        rw [← u2] at this
        exact this
      · by_cases z : j = i
        · subst z
          rw [hd] at hj'
          obtain ⟨rfl, rfl⟩ := pk_inj (Option.some.inj hj')
          exact ⟨dput_mem.mpr (.inl rfl), dput_mem.mpr (.inl rfl)⟩
        · obtain ⟨m1, m2⟩ := hall j (by omega) p' e' hj'
          exact ⟨dput_mem.mpr (.inr m1), dput_mem.mpr (.inr m2)⟩)
  refine ⟨k1, v1, k2, v2, v7', v8', e1, t1, t2, fun p e hm _ _ => ?_⟩
  obtain ⟨j, hj, hj'⟩ := List.getElem_of_mem hm
  exact hall j hj p e (by rw [List.getElem?_eq_getElem hj, hj'])
end K01

set_option Elab.async false
set_option linter.all false
set_option maxRecDepth 100000
set_option maxHeartbeats 2000000
namespace K01
open Z L2
theorem ths_get {w h : Nat} {d : D} (hd : d ∈ thsD w h) : ∃ k i, ((k = false ∧ i < w) ∨ (k = true ∧ i < h)) ∧ d = thD k i := by
  obtain ⟨p, hp, rfl⟩ := List.mem_map.mp hd
  exact ⟨p.1, p.2, ths_mem hp, rfl⟩
theorem ovT_same (rs : List (List Nat)) (k : Bool) (i i' : Nat) : ovT rs k i k i' = false := by unfold ovT; rw [if_pos rfl]
theorem turns_ok {w : Nat} {rs : List (List Nat)} (h : CC w rs) {ks vs : List D} (tb : Tb rs.length w (up rs) ks vs) (hall : ∀ p e, p < rs.length → e < w → pk p e ∈ ks) {a b : Int} (hk : Ck a b) : ∃ a' b' v6 v7 v8 v9 v10, Ck a' b' ∧
    forD (gN 6) L1__law_right [] (rngL 20) [some (.obj 0), some (clD rs), some (.int (rs.length : Int)), some (.int (w : Int)), some (.dic true ks vs), some (.tup (thsD w rs.length)), none, none, none, none, none, none, none, none, none] [cupO a b] =
      .nx [some (.obj 0), some (clD rs), some (.int (rs.length : Int)), some (.int (w : Int)), some (.dic true ks vs), some (.tup (thsD w rs.length)), v6, v7, v8, v9, v10, none, none, none, none] [cupO a' b'] := by
  have hw1 := h.w1
  have hw2 := h.w2
  have hh1 := h.h1
  have hh2 := h.h2
  obtain ⟨ρ', s', e1, ⟨a', b', k', rfl, v6, v7, v8, v9, v10, rfl⟩⟩ := for_inv (t := gN 6) (body := L1__law_right) (g := [])
    (fun i ρ s => ∃ a b, Ck a b ∧ s = [cupO a b] ∧ ∃ v6 v7 v8 v9 v10, ρ = [some (.obj 0), some (clD rs), some (.int (rs.length : Int)), some (.int (w : Int)), some (.dic true ks vs), some (.tup (thsD w rs.length)), v6, v7, v8, v9, v10, none, none, none, none]) (fun _ _ _ _ => rfl)
    (rngL 20) _ _ ⟨a, b, hk, rfl, none, none, none, none, none, rfl⟩ (fun i d hd ρ s ⟨a, b, hk, hs, v6, v7, v8, v9, v10, hρ⟩ => by
      subst hs hρ
      refine ⟨_, _, rfl, ?_⟩
      obtain ⟨p, a1, b1, e1, k1, l1, u1⟩ := roll (t := []) hk Tk_nil (m := (rs.length : Int)) (by omega) (by omega)
      obtain ⟨e, a2, b2, e2, k2, l2, u2⟩ := roll (t := []) k1 Tk_nil (m := (w : Int)) (by omega) (by omega)
      obtain ⟨o, a3, b3, e3, k3, ho⟩ := some_tup (t := []) k2 Tk_nil (xs := thsD w rs.length) (by intro z; have := ths_len w rs.length; rw [z] at this; simp at this; omega) (by rw [ths_len]; omega) (fun x hx => lk_olds _ (th_lk w rs.length x hx))
      obtain ⟨ko, io, hio, rfl⟩ := ths_get ho
      obtain ⟨p, rfl⟩ : ∃ n : Nat, p = (n : Int) := ⟨p.toNat, by omega⟩
      obtain ⟨e, rfl⟩ : ∃ n : Nat, e = (n : Int) := ⟨e.toNat, by omega⟩
      have hp : p < rs.length := by omega
      have he : e < w := by omega
      obtain ⟨p', a4, b4, e4, k4, l4, u4⟩ := roll (t := []) k3 Tk_nil (m := (rs.length : Int)) (by omega) (by omega)
      obtain ⟨e', a5, b5, e5, k5, l5, u5⟩ := roll (t := []) k4 Tk_nil (m := (w : Int)) (by omega) (by omega)
      obtain ⟨p', rfl⟩ : ∃ n : Nat, p' = (n : Int) := ⟨p'.toNat, by omega⟩
      obtain ⟨e', rfl⟩ : ∃ n : Nat, e' = (n : Int) := ⟨e'.toNat, by omega⟩
      have hx : ∀ s, ixD2 (.dic true ks vs) (.tup [.int (p : Int), .int (e : Int)]) s = some (.bl (up rs p e)) := fun s => (ixD2_dic rfl).trans (tb.get (hall p e hp he))
      have o1 : ∀ s, G_is_over [clD rs, .tup [.str [101, 110, 100], .int (e : Int)], .tup [.str [112, 105, 99, 107], .int (p : Int)]] s = .ok (.bl (up rs p e)) s := fun s => over_ok (k := false) (k' := true) h (.inl ⟨rfl, he⟩) (.inr ⟨rfl, hp⟩) s
      have o2 : ∀ s, G_is_over [clD rs, .tup [.str [112, 105, 99, 107], .int (p : Int)], .tup [.str [101, 110, 100], .int (e : Int)]] s = .ok (.bl (!up rs p e)) s := fun s => over_ok (k := true) (k' := false) h (.inr ⟨rfl, hp⟩) (.inl ⟨rfl, he⟩) s
      have o3 : ∀ s, G_is_over [clD rs, thD ko io, thD ko io] s = .ok (.bl false) s := fun s => by rw [over_ok h hio hio, ovT_same]
      have o4 : ∀ s, G_is_over [clD rs, .tup [.str [112, 105, 99, 107], .int (p : Int)], .tup [.str [112, 105, 99, 107], .int (p' : Int)]] s = .ok (.bl false) s := fun s => over_ok (k := true) (k' := true) h (.inr ⟨rfl, hp⟩) (.inr ⟨rfl, by omega⟩) s
      have o5 : ∀ s, G_is_over [clD rs, .tup [.str [101, 110, 100], .int (e : Int)], .tup [.str [101, 110, 100], .int (e' : Int)]] s = .ok (.bl false) s := fun s => over_ok (k := false) (k' := false) h (.inl ⟨rfl, he⟩) (.inl ⟨rfl, by omega⟩) s
      have hls : ∀ s, G__law_like [.lst [.bl (up rs p e), .bl (!up rs p e), .bl false], .lst [.bl (up rs p e), .bl (!up rs p e), .bl false]] s = .ok (.bl true) s := fun s => like_same rfl s
      have hno : ∀ s, notO (.bl false) (.bl false) s = some (.bl false) := fun _ => rfl
      unfold L1__law_right
      rw [sSeq_ap]
      simp only [sPar3_ap, dFn_ap, aCons_ap, aNil_ap, dVar0, dVarS, bind_ok, e1, e2, e3, toF_ok, set0, setS, seq_nx]
      rw [sSeq_ap]
      simp only [sAsg_ap, gN_ap, dLst_ap, dTup_ap, dC_ap, dFn_ap, aCons_ap, aNil_ap, dVar0, dVarS, bind_ok, List.length, Nat.reduceAdd, Nat.reduceLeDiff, if_true, o1, o2, o3, toF_ok, set0, setS, seq_nx]
      rw [sSeq_ap]
      simp only [sIf_ap, tNotD_ap, dTst_ap, dNot_ap, dLst_ap, dTup_ap, dC_ap, dOp_ap, dFn_ap, aCons_ap, aNil_ap, dVar0, dVarS, bind_ok, List.length, Nat.reduceAdd, Nat.reduceLeDiff, if_true, hx, lift_s, isB_bl, hls, Bool.not_true, Bool.false_eq_true, if_false, toF_ok, sNil_ap, seq_nx]
      simp only [sIf_ap, tOrD_ap, dTst_ap, dTup_ap, dC_ap, dOp_ap, dFn_ap, aCons_ap, aNil_ap, dVar0, dVarS, bind_ok, List.length, Nat.reduceAdd, Nat.reduceLeDiff, if_true, lift_s, isB_bl, e4, e5, o4, o5, hno, Bool.false_eq_true, if_false, toF_ok, sNil_ap, seq_nx]
      exact ⟨_, _, rfl, a5, b5, k5, rfl, _, _, _, _, _, rfl⟩)
  exact ⟨a', b', v6, v7, v8, v9, v10, k', e1⟩
end K01

set_option Elab.async false
set_option linter.all false
set_option maxRecDepth 100000
set_option maxHeartbeats 2000000
namespace K01
open Z L2
theorem eqDs_str : ∀ rs : List (List Nat), eqDs (rs.map D.str) (rs.map D.str) = true
  | [] => by simp [eqDs]
  | r :: rs => by rw [List.map_cons, eqDs, eqDs_str rs, eqD]; simp
theorem eqO_cl {rs : List (List Nat)} (s : Sto) : eqO (clD rs) (clD rs) s = some (.bl true) := by
  have hp : pd 40 (clD rs) = true := by
    show (rs.map D.str).all (pd 39) = true
    rw [List.all_eq_true]
    intro d hd
    obtain ⟨r, _, rfl⟩ := List.mem_map.mp hd
    rfl
  exact eqO_pure hp hp rfl rfl (by unfold clD; rw [eqD]; exact eqDs_str rs)
theorem clk2 {w w' : Nat} {rs rs' : List (List Nat)} (h : CC w rs) (h' : CC w' rs') : lk 2 (.lst [clD rs, clD rs']) = true := lk_lstI (by simp) fun d hd => by
  simp at hd
  rcases hd with rfl | rfl
  · exact h.clk
  · exact h'.clk
theorem iscl_ok {w : Nat} {rs : List (List Nat)} (h : CC w rs) (s : Sto) : G_is_cloth [clD rs] s = .ok (.bl true) s := by
  unfold G_is_cloth
  rw [runB_ap 1 1 _ _ _ rfl]
  unfold B_is_cloth
  simp only [startD, List.map, List.replicate, List.length, Nat.reduceSub, Nat.reduceAdd, List.cons_append, List.nil_append, List.append_nil, sSeq_ap, sIf_ap, sRet_ap, sExp_ap, sNil_ap, sPar_ap, sPar3_ap, sAsg_ap, gN_ap, sFor_ap, dC_ap, dVar0, dVarS, set0, setS, dOp_ap, dOp1_ap, dTst_ap, isB_bl, dChain_ap, tAndD_ap, tOrD_ap, tNotD_ap, dAnd_ap, dOr_ap, dNot_ap, dIf_ap, aNil_ap, aCons_ap, dTup_ap, dLst_ap, dNew_ap, dB_ap, dM_ap, dMK_ap, dFn_ap, dSl_ap, dRev_ap, dDS_ap, dDct_ap, dDGet_ap, dOpN_ap, dLenSet_ap, dTupRg_ap, dListRg_ap, oNone_ap, oSome_ap, iSeq_ap, iA_ap, dComp_ap, dCompNew_ap, bind_ok, toF_ok, seq_nx, seq_rt, lift_s, mGo_s, if_t, if_f, if_true, if_false, Bool.false_eq_true, reduceCtorEq, fits_ok h.clk, h.cloth]
  exact exitE0 (n := 1) rfl
theorem right_ok {w : Nat} {rs : List (List Nat)} (h : CC w rs) {a b : Int} (hk : Ck a b) : ∃ a' b', G__law_right [.obj 0, clD rs] [cupO a b] = .ok (.bl true) [cupO a' b'] ∧ Ck a' b' := by
  have hw1 := h.w1
  have hw2 := h.w2
  have hh1 := h.h1
  have hh2 := h.h2
  obtain ⟨c0, hc0, hcl⟩ := hd_ok h
  have hl : ∀ s, lenD [clD rs] s = some (.int (rs.length : Int)) := fun s => by show some (D.int ((rs.map D.str).length : Int)) = _; rw [List.length_map]
  obtain ⟨ks, vs, ec, tb, lc, hall⟩ := canvas_ok h (Sk_cup (a := a) (b := b) Tk_nil)
  obtain ⟨a1, b1, v6, v7, v8, v9, v10, k1, et⟩ := turns_ok h tb hall hk
  obtain ⟨k1', v1, k2', v2, v7', v8', ef, t1, t2, hm⟩ := tables_ok h tb lc (c := cupO a1 b1) (some (.tup (thsD w rs.length))) v6 v7 v8 v9 v10
  have s1 : G__law_seen [.obj 1, .int (w : Int), .int (rs.length : Int)] [cupO a1 b1, .dic true k1' v1, .dic true k2' v2] = .ok (clD (tn w rs)) [cupO a1 b1, .dic true k1' v1, .dic true k2' v2] := by
    rw [← rws_tn h]
    exact seen_ok (f := fun e p => !up rs p e) rfl hw2 hh2 fun e p he hp => t1.get (hm p e (hall p e hp he) hp he).1
  have s2 : G__law_seen [.obj 2, .int (rs.length : Int), .int (w : Int)] [cupO a1 b1, .dic true k1' v1, .dic true k2' v2] = .ok (clD (bk rs)) [cupO a1 b1, .dic true k1' v1, .dic true k2' v2] := by
    rw [← rws_bk h]
    refine seen_ok (f := fun p e => !up rs p (w - 1 - e)) rfl hh2 hw2 fun p e hp he => ?_
    have := (hm p (w - 1 - e) (hall p (w - 1 - e) hp (by omega)) hp (by omega)).2
    rw [show w - 1 - (w - 1 - e) = e by omega] at this
    exact t2.get this
  have ht := tn_CC h
  have hb := bk_CC h
  have hr := rev_CC h
  have htr := tn_CC hr
  have htl : (tn w rs.reverse).length = w := tn_len _ _
  have e3 : ∀ s, G_turned_cloth [clD (tn w rs)] s = .ok (clD rs) s := fun s => by rw [turned_ok ht, tn_tn h]
  have e4 : ∀ s, G_back_of [clD (bk rs)] s = .ok (clD rs) s := fun s => by rw [back_ok hb, bk_bk h]
  have e5 : ∀ s, G_turned_cloth [clD (bk rs)] s = .ok (clD (tn w (bk rs))) s := fun s => turned_ok hb s
  have e6 : ∀ s, G_back_of [clD (tn w rs.reverse)] s = .ok (clD (bk (tn w rs.reverse))) s := fun s => back_ok htr s
  have e7 : ∀ s, G_turned_cloth [clD rs.reverse] s = .ok (clD (tn w rs.reverse)) s := fun s => turned_ok hr s
  have rv : ∀ (xs : List (List Nat)) s, revD (clD xs) s = some (clD xs.reverse) := fun xs s => by
    show some (D.tup (xs.map D.str).reverse) = _
    unfold clD
    rw [List.map_reverse]
  have i0 : ∀ (x y : D) s, ixD (.lst [x, y]) (.int 0) s = some x := fun _ _ _ => rfl
  have i1 : ∀ (x y : D) s, ixD (.lst [x, y]) (.int 1) s = some y := fun _ _ _ => rfl
  have hlk : lk 2 (.tup (thsD w rs.length)) = true := lk_tupI (by rw [ths_len]; omega) (th_lk w rs.length)
  have hti : ∀ s, G__law_like [.tup (thsD w rs.length), .tup (thsD w rs.length)] s = .ok (.bl true) s := fun s => like_same (lk_mono hlk (by omega)) s
  have hd1 : ∀ s, G__law_like [.lst [clD (tn w rs), clD (bk rs)], .lst [clD (tn w rs), clD (bk rs)]] s = .ok (.bl true) s := fun s => like_same (lk_mono (clk2 ht hb) (by omega)) s
  have hd2 : ∀ s, G__law_like [.lst [clD rs, clD rs], .lst [clD rs, clD rs]] s = .ok (.bl true) s := fun s => like_same (lk_mono (clk2 h h) (by omega)) s
  unfold G__law_right
  rw [runB_ap 2 15 _ _ _ rfl]
  unfold B__law_right
  simp only [startD, List.map, List.replicate, List.length, Nat.reduceSub, Nat.reduceAdd, List.cons_append, List.nil_append, List.append_nil]
  rw [sSeq_ap]
  simp only [sPar3_ap, dB_ap, dFn_ap, dOp_ap, dC_ap, aCons_ap, aNil_ap, dVar0, dVarS, bind_ok, hl, hc0, lift_s, lenD_str, hcl, ec, toF_ok, set0, setS, seq_nx]
  rw [sSeq_ap]
  simp only [sAsg_ap, gN_ap, dB_ap, dOp_ap, dComp_ap, iA_ap, aCons_ap, aNil_ap, dVar0, dVarS, bind_ok, lift_s, rng1L (n := w) _ (by omega)]
  rw [cmp_all (h := thE false) rfl _ (fun d hd => by
    obtain ⟨i, hi, rfl⟩ := rngL_mem hd
    refine ⟨_, rfl, ?_⟩
    unfold E1__law_right
    simp only [sSeq_ap, sIf_ap, sRet_ap, sExp_ap, sNil_ap, sPar_ap, sPar3_ap, sAsg_ap, gN_ap, sFor_ap, dC_ap, dVar0, dVarS, set0, setS, dOp_ap, dOp1_ap, dTst_ap, isB_bl, dChain_ap, tAndD_ap, tOrD_ap, tNotD_ap, dAnd_ap, dOr_ap, dNot_ap, dIf_ap, aNil_ap, aCons_ap, dTup_ap, dLst_ap, dNew_ap, dB_ap, dM_ap, dMK_ap, dFn_ap, dSl_ap, dRev_ap, dDS_ap, dDct_ap, dDGet_ap, dOpN_ap, dLenSet_ap, dTupRg_ap, dListRg_ap, oNone_ap, oSome_ap, iSeq_ap, iA_ap, dComp_ap, dCompNew_ap, bind_ok, toF_ok, seq_nx, seq_rt, lift_s, mGo_s, if_t, if_f, if_true, if_false, Bool.false_eq_true, reduceCtorEq, wipeD, List.length, Nat.reduceAdd, Nat.reduceLeDiff, thE, thD, if_false, Bool.false_eq_true, Int.zero_add, Int.toNat_natCast]) (by rw [rngL_len]; omega)]
  simp only [bind_ok, lift_s, rng1L (n := rs.length) _ (show rs.length < 1000000 by omega)]
  rw [cmp_all (h := thE true) rfl _ (fun d hd => by
    obtain ⟨i, hi, rfl⟩ := rngL_mem hd
    refine ⟨_, rfl, ?_⟩
    unfold E2__law_right
    simp only [sSeq_ap, sIf_ap, sRet_ap, sExp_ap, sNil_ap, sPar_ap, sPar3_ap, sAsg_ap, gN_ap, sFor_ap, dC_ap, dVar0, dVarS, set0, setS, dOp_ap, dOp1_ap, dTst_ap, isB_bl, dChain_ap, tAndD_ap, tOrD_ap, tNotD_ap, dAnd_ap, dOr_ap, dNot_ap, dIf_ap, aNil_ap, aCons_ap, dTup_ap, dLst_ap, dNew_ap, dB_ap, dM_ap, dMK_ap, dFn_ap, dSl_ap, dRev_ap, dDS_ap, dDct_ap, dDGet_ap, dOpN_ap, dLenSet_ap, dTupRg_ap, dListRg_ap, oNone_ap, oSome_ap, iSeq_ap, iA_ap, dComp_ap, dCompNew_ap, bind_ok, toF_ok, seq_nx, seq_rt, lift_s, mGo_s, if_t, if_f, if_true, if_false, Bool.false_eq_true, reduceCtorEq, wipeD, List.length, Nat.reduceAdd, Nat.reduceLeDiff, thE, thD, if_true, Int.zero_add, Int.toNat_natCast]) (by rw [rngL_len]; omega)]
  simp only [bind_ok, lift_s, addD_lst (a := (rngL w).map (thE false)) (b := (rngL rs.length).map (thE true)) _ (by rw [List.length_map, List.length_map, rngL_len, rngL_len]; omega)]
  rw [thE_map, thE_map, ← List.map_append]
  rw [show List.map (fun p => thD p.1 p.2) (List.map (fun i => (false, i)) (List.range w) ++ List.map (fun i => (true, i)) (List.range rs.length)) = thsD w rs.length from rfl]
  simp only [bind_ok, lift_s, tupleD2, tupleD, sqA, sqL, Option.map_some, lift_s, toF_ok, set0, setS, seq_nx]
  rw [sSeq_ap]
  simp only [sIf_ap, tNotD_ap, dTst_ap, dFn_ap, aCons_ap, aNil_ap, dVar0, dVarS, bind_ok, threadsOf_ok h, hti, isB_bl, Bool.not_true, Bool.false_eq_true, if_false, toF_ok, sNil_ap, seq_nx]
  rw [sSeq_ap]
  simp only [sFor_ap, iA_ap, aCons_ap, aNil_ap, dC_ap, bind_ok, rng1L (n := 20) _ (show 20 < 1000000 by omega), show ((20 : Int)) = ((20 : Nat) : Int) from rfl, lift_s, toF_ok]
  rw [et]
  simp only [seq_nx]
  rw [sSeq_ap]
  simp only [sPar_ap, dDnew_ap, aCons_ap, aNil_ap, bind_ok, toF_ok, set0, setS, seq_nx, List.length, Nat.reduceAdd, List.cons_append, List.nil_append]
  rw [sSeq_ap, sForK_ap (ks := ks) (vs := vs) (tt := true) 4 _ _ _ rfl, ef]
  simp only [noX_nx, seq_nx]
  rw [sSeq_ap]
  simp only [sAsg_ap, gN_ap, dLst_ap, dFn_ap, aCons_ap, aNil_ap, dVar0, dVarS, bind_ok, s1, s2, List.length, Nat.reduceAdd, Nat.reduceLeDiff, if_true, toF_ok, set0, setS, seq_nx]
  rw [sSeq_ap]
  simp only [sIf_ap, tNotD_ap, dTst_ap, dLst_ap, dFn_ap, aCons_ap, aNil_ap, dVar0, dVarS, bind_ok, turned_ok h, back_ok h, hd1, List.length, Nat.reduceAdd, Nat.reduceLeDiff, if_true, isB_bl, Bool.not_true, Bool.false_eq_true, if_false, toF_ok, sNil_ap, seq_nx]
  rw [sSeq_ap]
  simp only [sIf_ap, tNotD_ap, dTst_ap, dLst_ap, dFn_ap, dOp_ap, dC_ap, aCons_ap, aNil_ap, dVar0, dVarS, bind_ok, i0, i1, lift_s, e3, e4, hd2, List.length, Nat.reduceAdd, Nat.reduceLeDiff, if_true, isB_bl, Bool.not_true, Bool.false_eq_true, if_false, toF_ok, sNil_ap, seq_nx]
  have heq : ∀ s, eqO (clD (tn w (bk rs))) (clD (bk (tn w rs.reverse)).reverse) s = some (.bl true) := fun s => by rw [← tn_bk h]; exact eqO_cl s
  simp only [sRet_ap, dAnd_ap, dRev_ap, dTst_ap, dFn_ap, dOp_ap, dC_ap, aCons_ap, aNil_ap, dVar0, dVarS, bind_ok, back_ok h, e5, rv, lift_s, e7, e6, heq, isB_bl, if_true, i0, i1, iscl_ok ht, iscl_ok hb, toF_ok]
  exact ⟨a1, b1, exit_cup (t := []) (x := [.dic true k1' v1, .dic true k2' v2]) (n := 1) Tk_nil rfl, k1⟩
end K01

set_option Elab.async false
set_option linter.all false
set_option maxRecDepth 100000
set_option maxHeartbeats 2000000
namespace K01
open Z L2
theorem tail_ok (v v2 v3 : Option D) (a b : Int) : exitF [] (((sSeq (sAsg (dLst (aCons (dFn G_threads_of (aCons (dTup (aCons (dC (.str [35, 46])) (aNil))) (aNil))) (aCons (dFn G_is_over (aCons (dTup (aCons (dC (.str [35, 46])) (aCons (dC (.str [46, 35])) (aNil)))) (aCons (dTup (aCons (dC (.str [101, 110, 100])) (aCons (dC (.int 0)) (aNil)))) (aCons (dTup (aCons (dC (.str [112, 105, 99, 107])) (aCons (dC (.int 0)) (aNil)))) (aNil))))) (aCons (dFn G_is_over (aCons (dTup (aCons (dC (.str [35, 46])) (aCons (dC (.str [46, 35])) (aNil)))) (aCons (dTup (aCons (dC (.str [112, 105, 99, 107])) (aCons (dC (.int 0)) (aNil)))) (aCons (dTup (aCons (dC (.str [112, 105, 99, 107])) (aCons (dC (.int 1)) (aNil)))) (aNil))))) (aCons (dFn G_is_over (aCons (dTup (aCons (dC (.str [35, 46])) (aCons (dC (.str [46, 35])) (aNil)))) (aCons (dTup (aCons (dC (.str [112, 105, 99, 107])) (aCons (dC (.int 1)) (aNil)))) (aCons (dTup (aCons (dC (.str [101, 110, 100])) (aCons (dC (.int 0)) (aNil)))) (aNil))))) (aNil)))))) (gN 4)) (sSeq (sAsg (dOp addD (dVar 4) (dLst (aCons (dFn G_turned_cloth (aCons (dTup (aCons (dC (.str [35, 35, 46])) (aCons (dC (.str [46, 46, 46])) (aNil)))) (aNil))) (aCons (dFn G_back_of (aCons (dTup (aCons (dC (.str [35, 35, 46])) (aCons (dC (.str [46, 46, 46])) (aNil)))) (aNil))) (aCons (dFn G_turned_cloth (aCons (dTup (aCons (dC (.str [35])) (aNil))) (aNil))) (aCons (dFn G_back_of (aCons (dTup (aCons (dC (.str [46])) (aNil))) (aNil))) (aCons (dFn G_back_of (aCons (dTup (aCons (dC (.str [35, 46, 46])) (aCons (dC (.str [35, 35, 46])) (aNil)))) (aNil))) (aNil)))))))) (gN 4)) (sSeq (sAsg (dLst (aCons (dTup (aCons (dTup (aCons (dC (.str [101, 110, 100])) (aCons (dC (.int 0)) (aNil)))) (aCons (dTup (aCons (dC (.str [101, 110, 100])) (aCons (dC (.int 1)) (aNil)))) (aCons (dTup (aCons (dC (.str [112, 105, 99, 107])) (aCons (dC (.int 0)) (aNil)))) (aNil))))) (aCons (dC (.bl true)) (aCons (dC (.bl false)) (aCons (dC (.bl true)) (aCons (dTup (aCons (dC (.str [46, 35])) (aCons (dC (.str [46, 35])) (aCons (dC (.str [35, 35])) (aNil))))) (aCons (dTup (aCons (dC (.str [35, 46, 46])) (aCons (dC (.str [35, 35, 35])) (aNil)))) (aCons (dTup (aCons (dC (.str [46])) (aNil))) (aCons (dTup (aCons (dC (.str [35])) (aNil))) (aCons (dTup (aCons (dC (.str [35, 35, 46])) (aCons (dC (.str [35, 46, 46])) (aNil)))) (aNil))))))))))) (gN 5)) (sRet (dFn G__law_like (aCons (dVar 4) (aCons (dVar 5) (aNil))))))))) [v, some (.obj 0), v2, v3, none, none, none, none] [cupO a b]) = .ok (.bl true) [] := by kernel_rfl
theorem sides_ok {a b : Int} (k : Ck a b) : ∃ p a' b', G__law_some [.obj 0, .lst [.int 1, .int 2, .int 5, .int 12]] [cupO a b] = .ok (.int p) [cupO a' b'] ∧ Ck a' b' ∧ 1 ≤ p ∧ p ≤ 12 := by
  obtain ⟨q, a2, b2, e2, k2, hq⟩ := some_lst (t := []) k Tk_nil (xs := [.int 1, .int 2, .int 5, .int 12]) (by simp) (by simp) (fun x hx => by simp at hx; rcases hx with rfl | rfl | rfl | rfl <;> rfl)
  simp at hq
  rcases hq with rfl | rfl | rfl | rfl <;> exact ⟨_, a2, b2, e2, k2, by omega, by omega⟩
theorem sides3_ok {a b : Int} (k : Ck a b) : ∃ p a' b', G__law_some [.obj 0, .lst [.int 1, .int 3, .int 12]] [cupO a b] = .ok (.int p) [cupO a' b'] ∧ Ck a' b' ∧ 1 ≤ p ∧ p ≤ 12 := by
  obtain ⟨q, a2, b2, e2, k2, hq⟩ := some_lst (t := []) k Tk_nil (xs := [.int 1, .int 3, .int 12]) (by simp) (by simp) (fun x hx => by simp at hx; rcases hx with rfl | rfl | rfl <;> rfl)
  simp at hq
  rcases hq with rfl | rfl | rfl <;> exact ⟨_, a2, b2, e2, k2, by omega, by omega⟩
theorem all35 : CC 12 [List.replicate 12 35] := ⟨fun r hr => by rw [List.mem_singleton.mp hr]; exact ⟨rfl, fun c hc => .inl (List.mem_replicate.mp hc).2⟩, by omega, by omega, by simp, by simp⟩
theorem all46 : CC 1 (List.replicate 12 [46]) := by
  refine ⟨fun r hr => ?_, by decide, by decide, by simp, by simp⟩
  have e := (List.mem_replicate.mp hr).2
  subst e
  refine ⟨by simp, fun c hc => ?_⟩
  have := List.mem_singleton.mp hc
  exact .inr this
theorem law_true (ns : List Int) (hl : ns.length ≤ 63) : ∃ s', G_law [.fzl (ns.map D.int)] [] = .ok (.bl true) s' := by
  obtain ⟨a, b, e, k⟩ := cup ns hl
  unfold G_law
  rw [runB_ap 1 8 _ _ _ rfl]
  unfold B_law
  simp only [startD, List.map, List.replicate, Nat.reduceSub, Nat.reduceAdd, List.length, List.cons_append, List.nil_append, List.append_nil]
  rw [sSeq_ap]
  simp only [sAsg_ap, dFn_ap, aCons_ap, aNil_ap, dVar0, bind_ok, e, toF_ok, gN_ap, set0, setS, seq_nx]
  rw [sSeq_ap]
  simp only [sFor_ap, iA_ap, aCons_ap, aNil_ap, dC_ap, bind_ok, rng1 (j := 6) _ (show (0 : Int) ≤ 6 by omega) (by omega), lift_s, toF_ok]
  obtain ⟨ρ', s', e1, ⟨a1, b1, k1, rfl, v2, rfl⟩⟩ := for_inv (t := gN 2) (body := L1_law) (g := [])
    (fun i ρ s => ∃ a b, Ck a b ∧ s = [cupO a b] ∧ ∃ v2, ρ = [some (.fzl (ns.map D.int)), some (.obj 0), v2, none, none, none, none, none]) (fun _ _ _ _ => rfl)
    ((List.range (6 : Int).toNat).map fun (i : Nat) => .int (0 + i)) _ _ ⟨a, b, k, rfl, none, rfl⟩ (fun j d hj ρ s ⟨a, b, k, hs, v2, hρ⟩ => by
      subst hs hρ
      refine ⟨_, _, rfl, ?_⟩
      obtain ⟨p, a1, b1, e1, k1, p1, p2⟩ := sides_ok k
      obtain ⟨q, a2, b2, e2, k2, q1, q2⟩ := sides3_ok k1
      obtain ⟨xs, a3, b3, w, e3, k3, ⟨l1, l2⟩, ⟨w1, w2⟩, hx⟩ := cloth_draw (t := []) k2 Tk_nil p1 p2 q1 q2
      obtain ⟨rs, rfl, hrl, hrs⟩ := unmap (f := D.str) (Q := sgw w) hx
      rw [List.length_map] at l1 l2
      have h : CC w rs := ⟨hrs, w1, by omega, l1, by omega⟩
      obtain ⟨a4, b4, e4, k4⟩ := right_ok h k3
      have e4 : G__law_right [.obj 0, .tup (rs.map D.str)] [cupO a3 b3] = _ := e4
      unfold L1_law
      simp only [sSeq_ap, sIf_ap, sRet_ap, sExp_ap, sNil_ap, sPar_ap, sPar3_ap, sAsg_ap, gN_ap, sFor_ap, dC_ap, dVar0, dVarS, set0, setS, dOp_ap, dOp1_ap, dTst_ap, isB_bl, dChain_ap, tAndD_ap, tOrD_ap, tNotD_ap, dAnd_ap, dOr_ap, dNot_ap, dIf_ap, aNil_ap, aCons_ap, dTup_ap, dLst_ap, dNew_ap, dB_ap, dM_ap, dMK_ap, dFn_ap, dSl_ap, dRev_ap, dDS_ap, dDct_ap, dDGet_ap, dOpN_ap, dLenSet_ap, dTupRg_ap, dListRg_ap, oNone_ap, oSome_ap, iSeq_ap, iA_ap, dComp_ap, dCompNew_ap, bind_ok, toF_ok, seq_nx, seq_rt, lift_s, mGo_s, if_t, if_f, if_true, if_false, Bool.false_eq_true, reduceCtorEq, List.length, Nat.reduceAdd, Nat.reduceLeDiff, e1, e2, e3, e4, Bool.not_true]
      exact ⟨_, _, rfl, a4, b4, k4, rfl, _, rfl⟩)
  rw [e1]
  simp only [seq_nx]
  rw [sSeq_ap]
  simp only [sAsg_ap, gN_ap, dB_ap, dComp_ap, iA_ap, aCons_ap, aNil_ap, dC_ap, dVar0, dVarS, bind_ok, lift_s, rng1L (n := 12) _ (show 12 < 1000000 by omega), show ((12 : Int)) = ((12 : Nat) : Int) from rfl]
  obtain ⟨xs, s3, e3, ⟨a3, b3, k3, rfl⟩, hxl, hxs⟩ := cmp_inv (t := gN 6) (elt := E2_law) (g := []) (ρ := wipeD [some (.fzl (ns.map D.int)), some (.obj 0), v2, none, none, none, none, none] [6])
    (fun s => ∃ a b, Ck a b ∧ s = [cupO a b]) (fun x => ∃ r, x = .str r ∧ sgw 12 r) (fun _ _ => rfl) (rngL 12) [] _ ⟨a1, b1, k1, rfl⟩ (fun d hd s ⟨a, b, k, hs⟩ => by
      subst hs
      obtain ⟨ys, s4, e4, ⟨a4, b4, k4, rfl⟩, hyl, hys⟩ := cmp_inv (t := gN 7) (elt := E1_law) (g := []) (ρ := wipeD [some (.fzl (ns.map D.int)), some (.obj 0), v2, none, none, none, some d, none] [7])
        (fun s => ∃ a b, Ck a b ∧ s = [cupO a b]) (fun x => ∃ c : Nat, x = .str [c] ∧ (c = 35 ∨ c = 46)) (fun _ _ => rfl) (rngL 12) [] _ ⟨a, b, k, rfl⟩ (fun d hd s ⟨a, b, k, hs⟩ => by
          subst hs
          obtain ⟨y, a', b', e, k', hy⟩ := sgn_some (t := []) k Tk_nil (xs := [.str [35], .str [46]]) (by simp) (by simp) sgn2
          refine ⟨_, y, _, rfl, ?_, ⟨a', b', k', rfl⟩, by rcases hy with rfl | rfl <;> exact ⟨_, rfl, by omega⟩⟩
          unfold E1_law
          simp only [sSeq_ap, sIf_ap, sRet_ap, sExp_ap, sNil_ap, sPar_ap, sPar3_ap, sAsg_ap, gN_ap, sFor_ap, dC_ap, dVar0, dVarS, set0, setS, dOp_ap, dOp1_ap, dTst_ap, isB_bl, dChain_ap, tAndD_ap, tOrD_ap, tNotD_ap, dAnd_ap, dOr_ap, dNot_ap, dIf_ap, aNil_ap, aCons_ap, dTup_ap, dLst_ap, dNew_ap, dB_ap, dM_ap, dMK_ap, dFn_ap, dSl_ap, dRev_ap, dDS_ap, dDct_ap, dDGet_ap, dOpN_ap, dLenSet_ap, dTupRg_ap, dListRg_ap, oNone_ap, oSome_ap, iSeq_ap, iA_ap, dComp_ap, dCompNew_ap, bind_ok, toF_ok, seq_nx, seq_rt, lift_s, mGo_s, if_t, if_f, if_true, if_false, Bool.false_eq_true, reduceCtorEq, wipeD, List.length, Nat.reduceAdd, Nat.reduceLeDiff, e]) (by rw [rngL_len]; simp)
      obtain ⟨r, rfl, hrl, hr⟩ := unmap (f := fun c : Nat => D.str [c]) hys
      rw [rngL_len] at hyl
      refine ⟨_, .str r, _, rfl, ?_, ⟨a4, b4, k4, rfl⟩, ⟨r, rfl, by omega, hr⟩⟩
      unfold E2_law
      simp only [wipeD, List.set_cons_zero, List.set_cons_succ, dM_ap, dC_ap, tyD_str, if_true, dComp_ap, iA_ap, aCons_ap, aNil_ap, bind_ok, lift_s, rng1L (n := 12) _ (show 12 < 1000000 by omega), show ((12 : Int)) = ((12 : Nat) : Int) from rfl] at e4 ⊢
      rw [e4]
      simp only [sSeq_ap, sIf_ap, sRet_ap, sExp_ap, sNil_ap, sPar_ap, sPar3_ap, sAsg_ap, gN_ap, sFor_ap, dC_ap, dVar0, dVarS, set0, setS, dOp_ap, dOp1_ap, dTst_ap, isB_bl, dChain_ap, tAndD_ap, tOrD_ap, tNotD_ap, dAnd_ap, dOr_ap, dNot_ap, dIf_ap, aNil_ap, aCons_ap, dTup_ap, dLst_ap, dNew_ap, dB_ap, dM_ap, dMK_ap, dFn_ap, dSl_ap, dRev_ap, dDS_ap, dDct_ap, dDGet_ap, dOpN_ap, dLenSet_ap, dTupRg_ap, dListRg_ap, oNone_ap, oSome_ap, iSeq_ap, iA_ap, dComp_ap, dCompNew_ap, bind_ok, toF_ok, seq_nx, seq_rt, lift_s, mGo_s, if_t, if_f, if_true, if_false, Bool.false_eq_true, reduceCtorEq, List.nil_append, chars_join (r := r) (by omega)]) (by rw [rngL_len]; simp)
  rw [e3]
  obtain ⟨rs, rfl, hrl, hrs⟩ := unmap (f := D.str) (Q := sgw 12) hxs
  rw [rngL_len] at hxl
  have h : CC 12 rs := ⟨hrs, by omega, by omega, by omega, by omega⟩
  simp only [bind_ok, lift_s, List.nil_append, tupleD2, tupleD, sqA, sqL, Option.map_some, toF_ok, set0, setS, seq_nx]
  obtain ⟨a4, b4, e4, k4⟩ := right_ok h k3
  obtain ⟨a5, b5, e5, k5⟩ := right_ok all35 k4
  obtain ⟨a6, b6, e6, k6⟩ := right_ok all46 k5
  have e4 : G__law_right [.obj 0, .tup (rs.map D.str)] [cupO a3 b3] = _ := e4
  have m1 : ∀ s, mulD2 (.str [35]) (.int ((12 : Nat) : Int)) s = some (.str (List.replicate 12 35)) := fun _ => rfl
  have m2 : ∀ s, mulD2 (.tup [.str [46]]) (.int ((12 : Nat) : Int)) s = some (clD (List.replicate 12 [46])) := fun _ => rfl
  have e5 : G__law_right [.obj 0, .tup [.str (List.replicate 12 35)]] [cupO a4 b4] = _ := e5
  rw [sSeq_ap]
  simp only [sIf_ap, tOrD_ap, tNotD_ap, dTst_ap, dFn_ap, dTup_ap, dOp_ap, dC_ap, aCons_ap, aNil_ap, dVar0, dVarS, bind_ok, e4, isB_bl, Bool.not_true, Bool.false_eq_true, if_false, m1, m2, lift_s, List.length, Nat.reduceAdd, Nat.reduceLeDiff, if_true, e5, e6, toF_ok, sNil_ap, seq_nx]
  exact ⟨[], tail_ok _ _ _ _ _⟩
end K01

open PySem PySem.W PyProof.Rows
set_option maxHeartbeats 0 in
theorem PySem.Challenge.cw_clothholds_k01_whole_threads_and_sides_holds : PySem.Challenge.rw_clothholds_k01_whole_threads_and_sides.Holds := by
  w_on; o_law; k_head; (case hw => w_witness2)
  k_fill
  refine L2.walk_of (l := PySem.Challenge.rw_clothholds_k01_whole_threads_and_sides) (n := 63) (k := 12) (x := "script") (CX := fun w => L2.CX (PySem.Challenge.rw_clothholds_k01_whole_threads_and_sides).prog w) (sp := fun w => Z.spEnd _) rfl (by decide) rfl ⟨rfl, by decide, by decide⟩ (fun w h Y => PySem.W.kIn_of Y) ?F (fun _ _ a ns hl ho hS => ⟨a, ns, rfl, ho, hS, hl, fun _ => rfl⟩) (fun _ _ _ _ _ h => by obtain ⟨_, _, _, _, _, _, _, _, _, _, _, _, e⟩ := h; exact e)
  case F =>
    intro w mg fa h KX G hmg
    refine' K01.all_mk K01.law_true KX G hmg ?a0 ?l0 ?c0 ?k0 ?a1 ?l1 ?c1 ?k1 ?a2 ?l2 ?c2 ?k2 ?a3 ?l3 ?c3 ?k3 ?a4 ?l4 ?c4 ?k4 ?a5 ?l5 ?c5 ?k5 ?a6 ?l6 ?c6 ?k6 ?a7 ?l7 ?c7 ?k7 ?a8 ?l8 ?c8 ?k8 ?a9 ?l9 ?c9 ?k9 ?a10 ?l10 ?c10 ?k10 ?a11 ?l11 ?c11 ?k11 ?a12 ?l12 ?c12 ?k12 ?a13 ?l13 ?c13 ?k13 ?a14 ?l14 ?c14 ?k14 ?a15 ?l15 ?c15 ?k15 ?a16 ?l16 ?c16 ?k16 ?a17 ?l17 ?c17 ?k17 ?a18 ?l18 ?c18 ?k18 ?a19 ?l19 ?c19 ?k19 ?a20 ?l20 ?c20 ?k20 ?a21 ?l21 ?c21 ?k21 ?a22 ?l22 ?c22 ?k22 ?a23 ?l23 ?c23 ?k23 ?a24 ?l24 ?c24 ?k24 ?a25 ?l25 ?c25 ?k25 ?z0 ?z1 ?z2 ?z3 ?z4 ?z5 ?z6 ?z7 ?z8 ?z9 ?z10 ?z11 ?z12 ?z13 ?q13 ?z14 ?q14
    (case a0 => k_is); (case l0 => k_is); (case c0 => k_is); (case k0 => k_is); (case a1 => k_is); (case l1 => k_is); (case c1 => k_is); (case k1 => k_is); (case a2 => k_is); (case l2 => k_is); (case c2 => k_is); (case k2 => k_is); (case a3 => k_is); (case l3 => k_is); (case c3 => k_is); (case k3 => k_is); (case a4 => k_is); (case l4 => k_is); (case c4 => k_is); (case k4 => k_is); (case a5 => k_is); (case l5 => k_is); (case c5 => k_is); (case k5 => k_is); (case a6 => k_is); (case l6 => k_is); (case c6 => k_is); (case k6 => k_is); (case a7 => k_is); (case l7 => k_is); (case c7 => k_is); (case k7 => k_is); (case a8 => k_is); (case l8 => k_is); (case c8 => k_is); (case k8 => k_is); (case a9 => k_is); (case l9 => k_is); (case c9 => k_is); (case k9 => k_is); (case a10 => k_is); (case l10 => k_is); (case c10 => k_is); (case k10 => k_is); (case a11 => k_is); (case l11 => k_is); (case c11 => k_is); (case k11 => k_is); (case a12 => k_is); (case l12 => k_is); (case c12 => k_is); (case k12 => k_is); (case a13 => k_is); (case l13 => k_is); (case c13 => k_is); (case k13 => k_is); (case a14 => k_is); (case l14 => k_is); (case c14 => k_is); (case k14 => k_is); (case a15 => k_is); (case l15 => k_is); (case c15 => k_is); (case k15 => k_is); (case a16 => k_is); (case l16 => k_is); (case c16 => k_is); (case k16 => k_is); (case a17 => k_is); (case l17 => k_is); (case c17 => k_is); (case k17 => k_is); (case a18 => k_is); (case l18 => k_is); (case c18 => k_is); (case k18 => k_is); (case a19 => k_is); (case l19 => k_is); (case c19 => k_is); (case k19 => k_is); (case a20 => k_is); (case l20 => k_is); (case c20 => k_is); (case k20 => k_is); (case a21 => k_is); (case l21 => k_is); (case c21 => k_is); (case k21 => k_is); (case a22 => k_is); (case l22 => k_is); (case c22 => k_is); (case k22 => k_is); (case a23 => k_is); (case l23 => k_is); (case c23 => k_is); (case k23 => k_is); (case a24 => k_is); (case l24 => k_is); (case c24 => k_is); (case k24 => k_is); (case a25 => k_is); (case l25 => k_is); (case c25 => k_is); (case k25 => k_is); (case z0 => k_is); (case z1 => k_is); (case z2 => k_is); (case z3 => k_is); (case z4 => k_is); (case z5 => k_is); (case z6 => k_is); (case z7 => k_is); (case z8 => k_is); (case z9 => k_is); (case z10 => k_is); (case z11 => k_is); (case z12 => k_is); (case z13 => k_is); (case q13 => rfl); (case z14 => k_is); (case q14 => rfl)
